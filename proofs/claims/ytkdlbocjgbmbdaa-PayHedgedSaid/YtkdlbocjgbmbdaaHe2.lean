import Derived.Test.YtkdlbocjgbmbdaaHe1
import Derived.Test.YtkdlbocjgbmbdaaProg
import Derived.Below
import Derived.Deep.Draws
import Derived.Deep.AppendLies
import Derived.Maps.AppendAt
import Derived.OwnWalk
import Derived.Laws.BytesArg
import Derived.Laws.MakeOwn
import Derived.Laws.OwnMore
import Derived.Deep.OwnRows
import Derived.Tactics
import Derived.Lib.ConvBytes
import Derived.Laws.Slices
import Derived.WalkKit
import Derived.KernelRfl
import Derived.RowKit3
import Derived.Deep.LoopGhost
import Derived.Deep.QuietTactic
import Derived.BigQuiet
import Derived.WideLaws
import Derived.Deep.DeepCutAuto
import Derived.Deep.CutBlock
import Derived.Deep.RegionHeld3
import Derived.Laws.Rows
import Derived.Lib.AppendStr
import Derived.ArgAppend
import Derived.Laws.IdiomCopy
import Derived.OrdersHeld
import Derived.Laws.BitsLemmas
import Derived.RowKit
import Derived.RangeFuncNested
import Derived.RangeFuncBound
import Derived.RangeFuncCalls
import Derived.RangeFuncLeaves
import Derived.RangeFuncBox
import Derived.Shelf.Abstract
import Derived.Shelf.RegionOpen
import Derived.OwnWalkIn
import Derived.TacticsInMore
import Derived.LoopNIn
import Derived.LoopIn
import Derived.Outline
import Derived.Sort.QuietIn
import Derived.Maps.OwnIn
import Derived.StillTailTactics
import Derived.Laws.Tables
import Derived.BigFrame
import Derived.Lib.OthersKept
import Derived.Lib.SlBytesRow
import Derived.Lib.Hide
import Derived.Sort.QuietThIn
import Derived.DeepKeys4
import Derived.Maps.RangeWalk
set_option linter.unusedVariables false
set_option linter.unusedSimpArgs false
namespace Go.Proofs.Ytkdlbocjgbmbdaa.Print
open Go.RowKit Go.Proofs.YtkdlbocjgbmbdaaW.PrintWords Go.Proofs.YtkdlbocjgbmbdaaW.PrintLast Go.Proofs.YtkdlbocjgbmbdaaW.PrintMore
attribute [local go_sem] max2_int min2_int max_two min_two max_three min_three max_four min_four   -- for this text's walks alone
set_option linter.unusedVariables false
set_option linter.unusedSimpArgs false
def errW : Option Int → Value
  | none => .nilIface
  | some c => .iface 0 (.int .i64 c)
theorem errW_none : errW none = .nilIface := rfl
theorem errW_some (c : Int) : errW (some c) = .iface 0 (.int .i64 c) := rfl
theorem info3 : (Try.prog.info? 3).map (fun i => (i.zero, i.size, i.bytes)) = some (some (.int .i64 0), 1, 8) := by kernel_rfl
theorem info24 : (Try.prog.info? 24).map (fun i => (i.zero, i.size, i.bytes)) = some (some (.agg #[(.int .i64 0), (.int .i64 0)]), 2, 16) := by kernel_rfl
theorem info26 : (Try.prog.info? 26).map (fun i => (i.zero, i.size, i.bytes)) = some (some (.agg #[(.int .i64 0), (.int .i64 0)]), 2, 16) := by kernel_rfl
structure S26 where
  f0 : Int
  f1 : Int
def z26 : S26 := ⟨(0 : Int), (0 : Int)⟩
def k26 : Kd S26 := Kd.iso (Kd.pair (Kd.int .i64) (Kd.int .i64)) (fun x : S26 => (x.f0, x.f1))
theorem k26_open {w : World} {x : S26} {cs : List Value} (h : k26.K w x cs) : cs = [.int .i64 x.f0, .int .i64 x.f1] := by
  obtain ⟨_, _, rfl, rfl, rfl⟩ := h
  exact rfl
theorem k26_mkM (w : World) (base : Nat) (ok : Nat → Prop) (x : S26)  : k26.M w base ok x [.int .i64 x.f0, .int .i64 x.f1] := ⟨[.int .i64 x.f0], [.int .i64 x.f1], rfl, rfl, rfl⟩
def rd_T26 (xs : List S26) (i : Int) : S26 := xs.getD i.toNat z26
theorem at_T26 {w : World} {A : Option Addr} {n : Nat} {xs : List S26} (h : Kd.C k26 w A n xs) (i : Int) (h0 : 0 ≤ i) (h1 : i < n) : ∃ ad , A = some ad ∧ w.cell? (ad.add (i.toNat * 2)) = some (.int .i64 (rd_T26 xs i).f0) ∧ w.cell? ⟨(ad.add (i.toNat * 2)).block, (ad.add (i.toNat * 2)).off + 1, none⟩ = some (.int .i64 (rd_T26 xs i).f1) := by
  obtain ⟨ad, c, e, _, hK, hc0⟩ := Kd.C_get h z26 i h0 h1
  have hc : ∀ j u, c[j]? = some u → w.cell? (ad.add (i.toNat * 2 + j)) = some u := hc0
  obtain rfl := k26_open hK
  exact ⟨ad, e, hc 0 _ rfl, by rw [← add_field _ _ 1 (by omega)]; exact hc 1 _ rfl⟩
structure S84 where
  f0 : Int
  f1 : Int
  f2 : Bool
def z84 : S84 := ⟨(0 : Int), (0 : Int), false⟩
def k84 : Kd S84 := Kd.iso (Kd.pair (Kd.int .i64) (Kd.pair (Kd.int .i64) Kd.bool)) (fun x : S84 => (x.f0, x.f1, x.f2))
theorem k84_open {w : World} {x : S84} {cs : List Value} (h : k84.K w x cs) : cs = [.int .i64 x.f0, .int .i64 x.f1, .bool x.f2] := by
  obtain ⟨_, _, rfl, rfl, ⟨_, _, rfl, rfl, rfl⟩⟩ := h
  exact rfl
theorem k84_mkM (w : World) (base : Nat) (ok : Nat → Prop) (x : S84)  : k84.M w base ok x [.int .i64 x.f0, .int .i64 x.f1, .bool x.f2] := ⟨[.int .i64 x.f0], [.int .i64 x.f1, .bool x.f2], rfl, rfl, ⟨[.int .i64 x.f1], [.bool x.f2], rfl, rfl, rfl⟩⟩
def rd_T84 (xs : List S84) (i : Int) : S84 := xs.getD i.toNat z84
theorem at_T84 {w : World} {A : Option Addr} {n : Nat} {xs : List S84} (h : Kd.C k84 w A n xs) (i : Int) (h0 : 0 ≤ i) (h1 : i < n) : ∃ ad , A = some ad ∧ w.cell? (ad.add (i.toNat * 3)) = some (.int .i64 (rd_T84 xs i).f0) ∧ w.cell? ⟨(ad.add (i.toNat * 3)).block, (ad.add (i.toNat * 3)).off + 1, none⟩ = some (.int .i64 (rd_T84 xs i).f1) ∧ w.cell? ⟨(ad.add (i.toNat * 3)).block, (ad.add (i.toNat * 3)).off + 2, none⟩ = some (.bool (rd_T84 xs i).f2) := by
  obtain ⟨ad, c, e, _, hK, hc0⟩ := Kd.C_get h z84 i h0 h1
  have hc : ∀ j u, c[j]? = some u → w.cell? (ad.add (i.toNat * 3 + j)) = some u := hc0
  obtain rfl := k84_open hK
  exact ⟨ad, e, hc 0 _ rfl, by rw [← add_field _ _ 1 (by omega)]; exact hc 1 _ rfl, by rw [← add_field _ _ 2 (by omega)]; exact hc 2 _ rfl⟩
structure S61 where
  f0 : Int
  f1 : Int
  f2 : Int
  f3 : Bool
def z61 : S61 := ⟨(0 : Int), (0 : Int), (0 : Int), false⟩
def k61 : Kd S61 := Kd.iso (Kd.pair (Kd.int .i64) (Kd.pair (Kd.int .i64) (Kd.pair (Kd.int .i64) Kd.bool))) (fun x : S61 => (x.f0, x.f1, x.f2, x.f3))
theorem k61_open {w : World} {x : S61} {cs : List Value} (h : k61.K w x cs) : cs = [.int .i64 x.f0, .int .i64 x.f1, .int .i64 x.f2, .bool x.f3] := by
  obtain ⟨_, _, rfl, rfl, ⟨_, _, rfl, rfl, ⟨_, _, rfl, rfl, rfl⟩⟩⟩ := h
  exact rfl
theorem k61_mkM (w : World) (base : Nat) (ok : Nat → Prop) (x : S61)  : k61.M w base ok x [.int .i64 x.f0, .int .i64 x.f1, .int .i64 x.f2, .bool x.f3] := ⟨[.int .i64 x.f0], [.int .i64 x.f1, .int .i64 x.f2, .bool x.f3], rfl, rfl, ⟨[.int .i64 x.f1], [.int .i64 x.f2, .bool x.f3], rfl, rfl, ⟨[.int .i64 x.f2], [.bool x.f3], rfl, rfl, rfl⟩⟩⟩
def rd_T61 (xs : List S61) (i : Int) : S61 := xs.getD i.toNat z61
theorem at_T61 {w : World} {A : Option Addr} {n : Nat} {xs : List S61} (h : Kd.C k61 w A n xs) (i : Int) (h0 : 0 ≤ i) (h1 : i < n) : ∃ ad , A = some ad ∧ w.cell? (ad.add (i.toNat * 4)) = some (.int .i64 (rd_T61 xs i).f0) ∧ w.cell? ⟨(ad.add (i.toNat * 4)).block, (ad.add (i.toNat * 4)).off + 1, none⟩ = some (.int .i64 (rd_T61 xs i).f1) ∧ w.cell? ⟨(ad.add (i.toNat * 4)).block, (ad.add (i.toNat * 4)).off + 2, none⟩ = some (.int .i64 (rd_T61 xs i).f2) ∧ w.cell? ⟨(ad.add (i.toNat * 4)).block, (ad.add (i.toNat * 4)).off + 3, none⟩ = some (.bool (rd_T61 xs i).f3) := by
  obtain ⟨ad, c, e, _, hK, hc0⟩ := Kd.C_get h z61 i h0 h1
  have hc : ∀ j u, c[j]? = some u → w.cell? (ad.add (i.toNat * 4 + j)) = some u := hc0
  obtain rfl := k61_open hK
  exact ⟨ad, e, hc 0 _ rfl, by rw [← add_field _ _ 1 (by omega)]; exact hc 1 _ rfl, by rw [← add_field _ _ 2 (by omega)]; exact hc 2 _ rfl, by rw [← add_field _ _ 3 (by omega)]; exact hc 3 _ rfl⟩
structure S77 where
  f0 : ByteArray
  f1 : Int
def z77 : S77 := ⟨(⟨#[]⟩ : ByteArray), (0 : Int)⟩
def k77 : Kd S77 := Kd.iso (Kd.pair Kd.string (Kd.int .i64)) (fun x : S77 => (x.f0, x.f1))
theorem k77_open {w : World} {x : S77} {cs : List Value} (h : k77.K w x cs) : cs = [.string x.f0, .int .i64 x.f1] := by
  obtain ⟨_, _, rfl, rfl, rfl⟩ := h
  exact rfl
theorem k77_mkM (w : World) (base : Nat) (ok : Nat → Prop) (x : S77)  : k77.M w base ok x [.string x.f0, .int .i64 x.f1] := ⟨[.string x.f0], [.int .i64 x.f1], rfl, rfl, rfl⟩
def rd_T77 (xs : List S77) (i : Int) : S77 := xs.getD i.toNat z77
theorem at_T77 {w : World} {A : Option Addr} {n : Nat} {xs : List S77} (h : Kd.C k77 w A n xs) (i : Int) (h0 : 0 ≤ i) (h1 : i < n) : ∃ ad , A = some ad ∧ w.cell? (ad.add (i.toNat * 2)) = some (.string (rd_T77 xs i).f0) ∧ w.cell? ⟨(ad.add (i.toNat * 2)).block, (ad.add (i.toNat * 2)).off + 1, none⟩ = some (.int .i64 (rd_T77 xs i).f1) := by
  obtain ⟨ad, c, e, _, hK, hc0⟩ := Kd.C_get h z77 i h0 h1
  have hc : ∀ j u, c[j]? = some u → w.cell? (ad.add (i.toNat * 2 + j)) = some u := hc0
  obtain rfl := k77_open hK
  exact ⟨ad, e, hc 0 _ rfl, by rw [← add_field _ _ 1 (by omega)]; exact hc 1 _ rfl⟩
structure S24 where
  f0 : Int
  f1 : Int
def z24 : S24 := ⟨(0 : Int), (0 : Int)⟩
def k24 : Kd S24 := Kd.iso (Kd.pair (Kd.int .i64) (Kd.int .i64)) (fun x : S24 => (x.f0, x.f1))
theorem k24_open {w : World} {x : S24} {cs : List Value} (h : k24.K w x cs) : cs = [.int .i64 x.f0, .int .i64 x.f1] := by
  obtain ⟨_, _, rfl, rfl, rfl⟩ := h
  exact rfl
theorem k24_mkM (w : World) (base : Nat) (ok : Nat → Prop) (x : S24)  : k24.M w base ok x [.int .i64 x.f0, .int .i64 x.f1] := ⟨[.int .i64 x.f0], [.int .i64 x.f1], rfl, rfl, rfl⟩
def rd_T24 (xs : List S24) (i : Int) : S24 := xs.getD i.toNat z24
theorem at_T24 {w : World} {A : Option Addr} {n : Nat} {xs : List S24} (h : Kd.C k24 w A n xs) (i : Int) (h0 : 0 ≤ i) (h1 : i < n) : ∃ ad , A = some ad ∧ w.cell? (ad.add (i.toNat * 2)) = some (.int .i64 (rd_T24 xs i).f0) ∧ w.cell? ⟨(ad.add (i.toNat * 2)).block, (ad.add (i.toNat * 2)).off + 1, none⟩ = some (.int .i64 (rd_T24 xs i).f1) := by
  obtain ⟨ad, c, e, _, hK, hc0⟩ := Kd.C_get h z24 i h0 h1
  have hc : ∀ j u, c[j]? = some u → w.cell? (ad.add (i.toNat * 2 + j)) = some u := hc0
  obtain rfl := k24_open hK
  exact ⟨ad, e, hc 0 _ rfl, by rw [← add_field _ _ 1 (by omega)]; exact hc 1 _ rfl⟩
end Go.Proofs.Ytkdlbocjgbmbdaa.Print

namespace Go.Proofs.Ytkdlbocjgbmbdaa.Print
open Go.RowKit Go.Shelf
theorem wide_fn (f : FuncId) : Fence.wide.fn f = True := rfl
theorem wide_asked (P : Program) (o : Oper) (a : Act) (C : World → Prop) : o.askedIn Fence.wide P a C = True := by simp [Oper.askedIn, Fence.wide]
def noDefer (ops : Array Oper) : Bool := ops.all fun o => match o.op with | .defer _ => false | _ => true
theorem noDefer_spec {ops : Array Oper} (h : noDefer ops = true) {i : Nat} {o : Oper} (hi : ops[i]? = some o) : ∀ c, o.op ≠ .defer c := by
  intro c hc
  unfold noDefer at h
  rw [Array.all_eq_true] at h
  obtain ⟨hlt, he⟩ := Array.getElem?_eq_some_iff.1 hi
  have := h i hlt
  rw [he, hc] at this
  simp at this
theorem uponIn_round {F : Fence} {n r : Nat} {P : Program} {o : Oper} {a : Act} {next next' : Act → World → Prop} {Q : Exit → Act → World → Prop} (hn : ∀ a w, next a w → next' a w) {x : Result Next} (h : o.uponIn F n P a next Q x) : o.uponIn (F.inRound r) n P a next' Q x := by
  cases x with
  | halt hh w =>
    cases hh <;> exact h
  | ok nx w =>
    cases nx with
    | value v => exact hn _ _ h
    | skip => exact hn _ _ h
    | «defer» d => exact hn _ _ h
    | enter f args =>
      refine ⟨h.1, CallsIn.inRound r (h.2.mono ?_)⟩
      intro e w' he
      cases e <;> first | exact hn _ _ he | exact he
    | row row args =>
      refine ⟨h.1, RowsIn.mono h.2 ?_⟩
      intro v w' he
      exact hn _ _ he
    | round l f tmps assign body =>
      refine ⟨h.1, RoundIn.mono h.2 ?_⟩
      intro e w' he
      cases e <;> first | exact hn _ _ he | exact he
    | _ => exact h
theorem wpOpsIn_round {F : Fence} {n r : Nat} {P : Program} {ops : Array Oper} {Q : Exit → Act → World → Prop} (hro : F.round = none) (hnd : noDefer ops = true) :
    ∀ (l : List Nat) (a : Act) (w : World), wpOpsIn F n P ops Q l a w → wpOpsIn (F.inRound r) n P ops Q l a w
  | [], _, _, h => h
  | i :: rest, a, w, h => by
    unfold wpOpsIn at h ⊢
    cases ho : ops[i]? with
    | none =>
      simp only [ho] at h ⊢
      exact wpOpsIn_round hro hnd rest _ _ h
    | some o =>
      simp only [ho] at h ⊢
      split
      · rename_i hw
        rw [if_pos hw] at h
        refine ⟨h.1, ?_⟩
        have h2 := h.2
        rw [hro, Oper.semAt_none] at h2
        rw [Oper.semAt_eq _ _ _ (noDefer_spec hnd ho)]
        exact uponIn_round (fun a w => wpOpsIn_round hro hnd rest a w) h2
      · rename_i hw
        rw [if_neg hw] at h
        exact ⟨h.1, wpOpsIn_round hro hnd rest _ _ h.2⟩
/-- **ONE WALK OF THE LEXICAL ORDER SERVES EVERY ORDER, INSIDE A ROUND.** -/
theorem wpIn_region_quiet_round {F : Fence} {n r : Nat} {P : Program} {id : Nat} {Q : Exit → Act → World → Prop} {a : Act} {w : World} {l : List Oper} (hro : F.round = none) (hm : P.follows .mixedOrders = true) (hB : Region.lexB .any l.toArray = true) (hnd : noDefer l.toArray = true)
    (h : wpQuietIn F n P l.toArray (fun w' => ∃ n, w' = w.drewN n) (fun a' => ∀ w', (∃ n, w' = w.drewN n) → Q .normal a' w') l a) : (Code.region id l.toArray true).wpIn (F.inRound r) n P Q a w := by
  simp only [Region.lexB, Bool.and_eq_true] at hB
  refine wpIn_region_draw fun t => wpOpsIn_round hro hnd _ _ _ ?_
  simp only [Region.schedule, hm, Bool.true_or, if_true]
  refine wpAnyIn_sound l.toArray.size t _ a _ (wpAnyIn_of_quiet (C := fun w' => ∃ n, w' = w.drewN n) (Q := fun a' => ∀ w', (∃ n, w' = w.drewN n) → Q .normal a' w') hro (fun _ w' hw' h => h w' hw') _ _ _ _ ⟨1, rfl⟩ ?_)
  have := wpAnyQIn_lex (F := F) (n := n) (C := fun w' => ∃ n, w' = w.drewN n) (md := .any) hB.1 l 0 (Array.replicate l.toArray.size false) a (by simp) (by simpa using hB.2) h
  simpa using this
def Blk (W : World) (B : Nat) (t : TypeId) (cs : Array Value) : Prop := W.heap[B]? = some (.cells cs t (0, 0))
theorem blk_own {β : Type} (B : Nat) (t : TypeId) (f : β → Array Value) : Own (fun s W => Blk W B t (f s)) := fun s X Y row hs hg hrow =>
  (hg.block B (Array.getElem?_eq_some_iff.1 hs).1 (fun e' => by obtain ⟨o, ho, hc⟩ := hrow B e'.symm; rw [show X.heap[B]? = _ from hs] at ho; cases ho; cases hc)).trans hs
theorem size_own {β : Type} (m : Nat) : Own (fun (_ : β) W => m ≤ W.heap.size) := fun s X Y row hs hg _ => Nat.le_trans hs hg.size
theorem Blk.lt {W : World} {B : Nat} {t : TypeId} {cs : Array Value} (h : Blk W B t cs) : B < W.heap.size := (Array.getElem?_eq_some_iff.1 h).1
theorem Blk.below {W W' : World} {n B : Nat} {t : TypeId} {cs : Array Value} (h : Blk W B t cs) (hb : Below n W W') (hn : B < n) : Blk W' B t cs := (hb.block B hn).trans h
theorem Blk.alloc {W : World} {B : Nat} {t : TypeId} {cs : Array Value} (h : Blk W B t cs) (o : Obj) : Blk (W.alloc o) B t cs := h.below ((Below.refl _ W).alloc (Nat.le_refl _) o) h.lt
theorem Blk.drewN {W : World} {B : Nat} {t : TypeId} {cs : Array Value} (h : Blk W B t cs) (n : Nat) : Blk (W.drewN n) B t cs := h
theorem Blk.cell {W : World} {B : Nat} {t : TypeId} {cs : Array Value} (h : Blk W B t cs) (i : Nat) {v : Value} (hv : cs[i]? = some v) : W.cell? ⟨B, i, none⟩ = some v := by rw [cell_of_row W B i cs t _ h]; exact hv
theorem Blk.frozen {W : World} {B : Nat} {t : TypeId} {cs : Array Value} (h : Blk W B t cs) (i : Nat) : W.frozen? ⟨B, i, none⟩ = false := by simp [World.frozen?, show W.heap[B]? = _ from h]
theorem Blk.far {W : World} {B : Nat} {t : TypeId} {cs : Array Value} (h : Blk W B t cs) {p : Addr} (hp : B ≠ p.block) (u : Value) : Blk (W.setCell p u) B t cs := (Below.heap_setCell W p u B hp).trans h
theorem Blk.set {W : World} {B : Nat} {t : TypeId} {cs : Array Value} (h : Blk W B t cs) (i : Nat) (u : Value) : Blk (W.setCell ⟨B, i, none⟩ u) B t (cs.setIfInBounds i u) := heap_setCell_same W B i cs t u h
theorem blk_new (W : World) (t : TypeId) (cs : Array Value) : Blk (W.alloc (.cells cs t)) W.heap.size t cs := World.alloc_heap_new W _
theorem blk_new' {W : World} {B : Nat} {t : TypeId} {cs : Array Value} (h : W.heap.size = B) : Blk (W.alloc (.cells cs t)) B t cs := h ▸ blk_new W t cs
theorem keeps_drewN (W : World) (n : Nat) : KeepsOthers W (W.drewN n) := ⟨Nat.le_refl _, fun _ _ h _ => h⟩
theorem below_drewN' {B : Nat} {W W' : World} (h : Below B W W') (n : Nat) : Below B W (W'.drewN n) := ⟨h.os, h.tape, h.output, h.size, h.block⟩
theorem below_alloc' {w W : World} (h : Below w.heap.size w W) (o : Obj) : Below w.heap.size w (W.alloc o) := h.alloc h.size o
end Go.Proofs.Ytkdlbocjgbmbdaa.Print

namespace Go.Proofs.Ytkdlbocjgbmbdaa.Print
open Go.RowKit Go.Shelf Go.Proofs.YtkdlbocjgbmbdaaW.PrintWords
theorem kC_take {α : Type} {d : Kd α} {w : World} {A : Option Addr} {n : Nat} {xs : List α} (h : Kd.C d w A n xs) (m : Nat) (hm : m ≤ n) : Kd.C d w A m (xs.take m) := by
  obtain rfl : xs.length = n := Kd.C_len h
  have := Kd.C_take h hm
  rwa [List.length_take, Nat.min_eq_left hm] at this
def boolCells (xs : List Bool) : Array Value := (xs.map Value.bool).toArray
theorem boolCells_size (xs : List Bool) : (boolCells xs).size = xs.length := by simp [boolCells]
theorem boolCells_at {xs : List Bool} {i : Nat} (h : i < xs.length) : (boolCells xs)[i]? = some (.bool (xs.getD i false)) := by
  simp [boolCells, List.getElem?_eq_getElem h, List.getD_eq_getElem?_getD]
theorem boolCells_set (xs : List Bool) (i : Nat) (b : Bool) : (boolCells xs).setIfInBounds i (.bool b) = boolCells (xs.set i b) := by
  simp [boolCells, List.map_set]
theorem boolCells_one (xs : List Bool) : (boolCells xs).all (·.oneCell') = true := by
  simp [boolCells, Array.all_eq_true, Value.oneCell']
section
variable {P : Program} {ops : Array Oper} {rest : List Oper} {o : Oper} {a : Act} {Q : Exit → Act → World → Prop} {W : World}
/-- A whole array is read. -/
theorem ev_load_row {N : Tmp} (_hd : o.dst = some N) (hgd : o.guard = none) (ty : TypeId) (x : Operand) (ho : o.op = .load ty x) (g : Nat) (hx : a.eval x = .pointer (some ⟨g, 0, none⟩)) {t : TypeId} {cs : Array Value} {n : Nat} {e : TypeId} (hb : Blk W g t cs)
    (hu : P.underlying ty = some (.array n e)) (hi : (P.info? ty).map (·.size) = some cs.size) (h : wpList P ops Q rest (a.put o.dst (.agg cs)) W) : wpList P ops Q (o :: rest) a W :=
  wpList_load_row hgd ty x ho g hx t cs (0, 0) _ hb hu rfl hi h
/-- A whole array is written: the world behind it has a name of its own. -/
theorem ev_store_row (hgd : o.guard = none) (ty : TypeId) (x y : Operand) (ho : o.op = .store ty x y) (hN : o.dst = none) (g : Nat) (cells : Array Value) (hx : a.eval x = .pointer (some ⟨g, 0, none⟩)) (hy : a.eval y = .agg cells) {t : TypeId} {old : Array Value} (hb : Blk W g t old)
    (hi : (P.info? ty).map (·.size) = some cells.size) (hold : old.size = cells.size) (h1 : cells.all (·.oneCell') = true)
    (h : ∀ W', Blk W' g t cells → W.grownBy W' (some g) → wpList P ops Q rest a W') : wpList P ops Q (o :: rest) a W := by
  refine wpList_store_row hgd ty x y ho g cells hx hy t old hb hi hold h1 ?_
  rw [hN]
  exact h _ (setRow_heap W g old cells t _ hb) ⟨rfl, rfl, rfl, by simp, fun k _ hk => setRow_other W g k cells (fun e => hk (by rw [e]))⟩
end
theorem Blk.grown {W W' : World} {row : Option Nat} {B : Nat} {t : TypeId} {cs : Array Value} (h : Blk W B t cs) (hg : W.grownBy W' row) (hne : some B ≠ row) : Blk W' B t cs := (hg.block B h.lt hne).trans h
theorem still_of_quiet {P : Program} {ops : Array Oper} {wd : World} {Q : Act → Prop} : ∀ (l : List Oper) (a : Act), wpQuiet P ops (fun x => x = wd) Q l a → wpStill P ops wd Q l a
  | [], a, h => h
  | o :: rest, a, h => by
    unfold wpQuiet at h
    unfold wpStill
    split
    · rename_i hw
      rw [if_pos hw] at h
      obtain ⟨v, hv, hk⟩ := h
      have hv := hv wd rfl
      unfold Oper.quietAt at hv
      unfold Oper.still
      revert hv
      generalize (execOp a.eval o).run P wd = r
      intro hv
      cases r with
      | halt hh w => exact hv.elim
      | ok nx w =>
        cases nx with
        | value u => exact ⟨hv.1, by rw [hv.2]; exact still_of_quiet rest _ hk⟩
        | skip => exact ⟨hv.1, by rw [← hv.2]; exact still_of_quiet rest _ hk⟩
        | enter f args =>
          obtain ⟨rfl, hc⟩ := hv
          exact ⟨rfl, v, hc, still_of_quiet rest _ hk⟩
        | _ => exact hv.elim
    · rename_i hw
      rw [if_neg hw] at h
      exact still_of_quiet rest _ h
theorem wp_region_quiet_tail {P : Program} {id : Nat} {Q : Exit → Act → World → Prop} {a : Act} {w : World} {l : List Oper} (n : Nat) (hm : P.follows .mixedOrders = true) (hB : Region.lexTailB .any l.toArray n = true)
    (h : ∀ wd : World, wd.heap = w.heap → (∀ B W0, Below B W0 w → Below B W0 wd) → wpQuiet P l.toArray (fun x => x = wd) (fun a' => wpList P l.toArray Q (l.drop n) a' wd) (l.take n) a) : (Code.region id l.toArray true).wp P Q a w :=
  wp_region_still_tail n hm hB (still_of_quiet _ _ (h { w with drawn := w.drawn + 1 } rfl (fun B W0 hb => ⟨hb.os, hb.tape, hb.output, hb.size, hb.block⟩)))
theorem Blk.same {W W' : World} {B : Nat} {t : TypeId} {cs : Array Value} (h : Blk W B t cs) (he : W'.heap = W.heap) : Blk W' B t cs := by unfold Blk; rw [he]; exact h
section
variable {P : Program}
theorem run_equalIn_array (d : Nat) (t : TypeId) (len : Nat) (elem : TypeId) (n : Nat) (xs ys : Array Value) (g : Nat → Bool) (w : World) (ht : P.underlying t = some (.array len elem)) (hn : (sizeOf elem).run P w = .ok n w)
    (h : ∀ i, i < len → ∃ a b, (part elem xs (i * n)).run P w = .ok a w ∧ (part elem ys (i * n)).run P w = .ok b w ∧ (Op.equalIn d elem a b).run P w = .ok (g i) w) :
    (Op.equalIn (d + 1) t (.agg xs) (.agg ys)).run P w = .ok ((List.range len).all g) w := by
  simp only [Op.equalIn, Sem.run_bind, run_underlying ht, Result.andThen_ok, hn]
  rw [Std.Legacy.Range.forIn_eq_forIn_range']
  have hl : List.range' 0 ([0:len].size) 1 = List.range len := by simp [Std.Legacy.Range.size, List.range_eq_range']
  show Result.andThen ((forIn (List.range' 0 ([0:len].size) 1) _ _ : Sem _).run P w) _ = _
  rw [hl]
  have h' : ∀ i ∈ List.range len, ∃ a b, (part elem xs (i * n)).run P w = .ok a w ∧ (part elem ys (i * n)).run P w = .ok b w ∧ (Op.equalIn d elem a b).run P w = .ok (g i) w := fun i hi => h i (List.mem_range.1 hi)
  clear h hl
  generalize List.range len = l at h'
  induction l with
  | nil => simp
  | cons i l ih =>
    obtain ⟨a, b, h1, h2, h3⟩ := h' i (by simp)
    have ih := ih (fun j hj => h' j (by simp [hj]))
    simp only [List.forIn_cons, Sem.run_bind, h1, h2, h3, Result.andThen_ok, List.all_cons]
    cases hg : g i with
    | false => simp
    | true => simpa using ih
end
end Go.Proofs.Ytkdlbocjgbmbdaa.Print

namespace Go.Proofs.Ytkdlbocjgbmbdaa.Print
open Go.RowKit Go.Shelf Go.Proofs.YtkdlbocjgbmbdaaW.PrintWords Go.Proofs.YtkdlbocjgbmbdaaW.PrintLast Go.Proofs.YtkdlbocjgbmbdaaW.PrintMore
set_option linter.unusedVariables false
attribute [local go_sem] Oper.semAt_some
/-- A state of type 124 at block g of W; what its slices lead to came in by w0. -/
def IsS124 (w0 W : World) (g : Nat) (f0 : Int) : Prop := W.heap[g]? = some (.cells #[.int .u64 f0] 124 (0, 0)) ∧ w0.heap.size ≤ g
theorem IsS124.grown {w0 W : World} {g : Nat} {f0 : Int} {W1 : World} {row : Option Nat} (h : IsS124 w0 W g f0) (hw : W.grownBy W1 row) (hne : some g ≠ row) : IsS124 w0 W1 g f0 := by
  obtain ⟨hb, hg⟩ := h
  exact ⟨blk_grown hb hw hne, hg⟩
theorem IsS124.kept {w0 W : World} {g : Nat} {f0 : Int} {W1 : World} {S : Nat → Prop} (h : IsS124 w0 W g f0) (hk : Kept W W1 S) (hne : ¬ S g) : IsS124 w0 W1 g f0 := by
  obtain ⟨hb, hg⟩ := h
  exact ⟨blk_kept hb hk hne, hg⟩
theorem IsS124.below {w0 W : World} {g : Nat} {f0 : Int} {W1 : World} (h : IsS124 w0 W g f0) (hw : Below W.heap.size W W1) : IsS124 w0 W1 g f0 := h.grown (grown_of_below hw none) (by simp)
theorem IsS124.alloc {w0 W : World} {g : Nat} {f0 : Int} (h : IsS124 w0 W g f0) (o : Obj) : IsS124 w0 (W.alloc o) g f0 := h.below (below_alloc (Below.refl _ _) o)
theorem IsS124.drewN {w0 W : World} {g : Nat} {f0 : Int} (h : IsS124 w0 W g f0) (m : Nat) : IsS124 w0 (W.drewN m) g f0 := h
theorem IsS124.drew {w0 W : World} {g : Nat} {f0 : Int} (h : IsS124 w0 W g f0) : IsS124 w0 W.drew g f0 := h
theorem IsS124.at_ {w0 W : World} {g : Nat} {f0 : Int} {w' : World} {m : Nat} (hq : W.drewN m = w') (h : IsS124 w0 W g f0) : IsS124 w0 w' g f0 := by subst hq; exact IsS124.drewN h m
theorem IsS124.apart {w0 W : World} {g : Nat} {f0 : Int} {α : Type} {d : Kd α} {e : Nat} {base : Nat} {ok : Nat → Prop} {v : Value} {xs : List α} (h : IsS124 w0 W g f0) (ho : d.R e W base ok v xs) (ht : ∀ q, q ∈ e :: d.E → q ≠ 124) : d.R e W base (fun k => ok k ∧ k ≠ g) v xs := by
  obtain ⟨hb, hg⟩ := h
  exact Kd.R_types ho hb ht
theorem IsS124.own_ne {w0 W : World} {g : Nat} {f0 : Int} {α : Type} {d : Kd α} {e : Nat} {base : Nat} {ok : Nat → Prop} {v : Value} {xs : List α} (h : IsS124 w0 W g f0) (ho : d.R e W base ok v xs) (ht : e ≠ 124) : some g ≠ v.ownBlock := by
  obtain ⟨hb, hg⟩ := h
  exact Kd.R_ne ho hb ht
theorem IsS124.lt {w0 W : World} {g : Nat} {f0 : Int} (h : IsS124 w0 W g f0) : g < W.heap.size := by
  obtain ⟨hb, hg⟩ := h
  exact blk_lt hb
theorem IsS124.ge {w0 W : World} {g : Nat} {f0 : Int} (h : IsS124 w0 W g f0) : w0.heap.size ≤ g := by
  obtain ⟨hb, hg⟩ := h
  exact hg
theorem IsS124.far {w0 W : World} {g : Nat} {f0 : Int} {p : Addr} (h : IsS124 w0 W g f0) (hne : g ≠ p.block) (u : Value) : IsS124 w0 (W.setCell p u) g f0 := by
  obtain ⟨hb, hg⟩ := h
  exact ⟨blk_far hb hne u, hg⟩
theorem IsS124.set_0 {w0 W : World} {g : Nat} {f0 : Int} (h : IsS124 w0 W g f0) (x : Int) : IsS124 w0 (W.setCell ⟨g, 0, none⟩ (.int .u64 x)) g x := by
  obtain ⟨hb, hg⟩ := h
  exact ⟨by simpa using blk_set hb 0 (.int .u64 x), hg⟩
theorem IsS124.new (w0 W : World) (f0 : Int) (hB : Below w0.heap.size w0 W) : IsS124 w0 (W.alloc (.cells #[.int .u64 f0] 124)) W.heap.size f0 := ⟨by simpa using heap_alloc_new W _, hB.size⟩
def nextA (s : Int) : Int := if s = 0 then 1 else s
def nextB (s : Int) : Int := Go.bits .xor .u64 (nextA s) (IntKind.u64.wrap (nextA s * 8192))
def nextC (s : Int) : Int := Go.bits .xor .u64 (nextB s) (nextB s / 128)
def nextD (s : Int) : Int := Go.bits .xor .u64 (nextC s) (IntKind.u64.wrap (nextC s * 131072))
def feedMul (d : Int) : Int := IntKind.u64.wrap (d * 2685821657736338717)
def nextV (s : Int) : Int := feedMul (nextD s)
def swarfkit_Feed_next.f (s0_0 : Int) : Option (Int × Int) := some (nextV s0_0, nextD s0_0)
theorem keep_same {w W W' : World} {g : Nat} (h : KeepBut w W g none) (he : W'.heap = W.heap) : KeepBut w W' g none := by
  unfold KeepBut at h ⊢
  rw [he]
  exact h
/-- Where the feed stands. -/
structure FeedAt (w0 w : World) (g : Nat) (a : Int) (W : World) : Prop where
  b : Blk W g 124 #[.int .u64 a]
  hg : w0.heap.size ≤ g
  hB : Below w0.heap.size w0 W
  hk : KeepBut w W g none
theorem FeedAt.set {w0 w : World} {g : Nat} {a : Int} {W : World} (h : FeedAt w0 w g a W) (v : Int) : FeedAt w0 w g v (W.setCell ⟨g, 0, none⟩ (.int .u64 v)) :=
  ⟨h.b.set 0 _, h.hg, h.hB.setCell (p := ⟨g, 0, none⟩) h.hg _, KeepBut.set_ h.hk 0 _⟩
theorem FeedAt.same {w0 w : World} {g : Nat} {a : Int} {W W' : World} (h : FeedAt w0 w g a W) (he : W'.heap = W.heap) (hb : ∀ B W0, Below B W0 W → Below B W0 W') : FeedAt w0 w g a W' :=
  ⟨h.b.same he, h.hg, hb _ _ h.hB, keep_same h.hk he⟩
theorem FeedAt.c {w0 w : World} {g : Nat} {a : Int} {W : World} (h : FeedAt w0 w g a W) : W.cell? ⟨g, 0, none⟩ = some (.int .u64 a) := h.b.cell 0 rfl
set_option maxHeartbeats 8000000 in
set_option maxRecDepth 100000 in
theorem swarfkit_Feed_next.calls (g : Nat) (s0_0 : Int) (r1 : Int) (r2 : Int) (w0 w : World) (hI : IsS124 w0 w g s0_0) (hB : Below w0.heap.size w0 w) (h : swarfkit_Feed_next.f s0_0 = some (r1, r2)) :
    Calls Try.prog 79 #[.pointer (some ⟨g, 0, none⟩)] w fun e w' => e = .returned (.int .u64 r1) ∧ IsS124 w0 w' g r2 ∧ Below w0.heap.size w0 w' ∧ KeepBut w w' g none := by
  unfold swarfkit_Feed_next.f at h
  simp only [Option.some.injEq, Prod.mk.injEq] at h
  obtain ⟨rfl, rfl⟩ := h
  obtain ⟨hb, hg⟩ := hI
  have F0 : FeedAt w0 w g s0_0 w := ⟨hb, hg, hB, KeepBut.refl w g none⟩
  have c0 := F0.c
  have f0 := F0.b.frozen 0
  clear hb
  cases hs : (s0_0 == 0)
  all_goals
    obtain ⟨a, ha⟩ : ∃ a, a = nextA s0_0 := ⟨_, rfl⟩
    obtain ⟨b, hb⟩ : ∃ b, b = nextB s0_0 := ⟨_, rfl⟩
    obtain ⟨c, hc⟩ : ∃ c, c = nextC s0_0 := ⟨_, rfl⟩
    obtain ⟨d, hd⟩ : ∃ d, d = nextD s0_0 := ⟨_, rfl⟩
    obtain ⟨v, hv⟩ : ∃ v, v = nextV s0_0 := ⟨_, rfl⟩
    have HBb : b = Go.bits .xor .u64 a (IntKind.u64.wrap (a * 8192)) := by rw [hb, ha]; rfl
    have HCc : c = Go.bits .xor .u64 b (b / 128) := by rw [hc, hb]; rfl
    have HDd : d = Go.bits .xor .u64 c (IntKind.u64.wrap (c * 131072)) := by rw [hd, hc]; rfl
    have HVv : v = feedMul d := by rw [hv, hd]; rfl
    rw [← hv, ← hd]
    clear hb hc hd hv
  · have ha' : a = s0_0 := by rw [ha, nextA, if_neg (by simpa using hs)]
    clear ha
    subst ha'
    have HB := Aside0.mk HBb.symm
    have HC := Aside0.mk HCc.symm
    have HD := Aside0.mk HDd.symm
    have HV := Aside0.mk HVv.symm
    clear HBb HCc HDd HVv hB
    have hs2 : (a != 0) = true := by simpa using hs
    have F1 := F0
    go_enter Try.func79, Try.ntmps79
    go_wp2
    refine wp_region_quiet_tail 13 (by kernel_rfl) (by kernel_rfl) ?_
    simp only [List.take_succ_cons, List.take_zero, List.drop_succ_cons, List.drop_zero]
    intro wd1 hwd1 hbd1
    have G1 := F1.same hwd1 hbd1
    have u1 := G1.c
    have v1 := G1.b.frozen 0
    clear hwd1 hbd1
    repeat (go_big_quiet_step (fail))
    refine wpQuiet_nil ?_
    go_wp2
    have F2 := G1.set (Go.bits .xor .u64 a (IntKind.u64.wrap (a * 8192)))
    rw [HB.out] at F2
    try rw [HB.out]
    clear u1 v1 G1 F1
    refine wp_region_quiet_tail 13 (by kernel_rfl) (by kernel_rfl) ?_
    simp only [List.take_succ_cons, List.take_zero, List.drop_succ_cons, List.drop_zero]
    intro wd2 hwd2 hbd2
    have G2 := F2.same hwd2 hbd2
    have u2 := G2.c
    have v2 := G2.b.frozen 0
    clear hwd2 hbd2
    repeat (go_big_quiet_step (fail))
    refine wpQuiet_nil ?_
    go_wp2
    have F3 := G2.set (Go.bits .xor .u64 b (b / 128))
    rw [HC.out] at F3
    try rw [HC.out]
    clear u2 v2 G2 F2
    refine wp_region_quiet_tail 13 (by kernel_rfl) (by kernel_rfl) ?_
    simp only [List.take_succ_cons, List.take_zero, List.drop_succ_cons, List.drop_zero]
    intro wd3 hwd3 hbd3
    have G3 := F3.same hwd3 hbd3
    have u3 := G3.c
    have v3 := G3.b.frozen 0
    clear hwd3 hbd3
    repeat (go_big_quiet_step (fail))
    refine wpQuiet_nil ?_
    go_wp2
    have F4 := G3.set (Go.bits .xor .u64 c (IntKind.u64.wrap (c * 131072)))
    rw [HD.out] at F4
    try rw [HD.out]
    clear u3 v3 G3 F3
    have u4 := F4.c
    go_wp2
    go_ret
    exact ⟨by rw [← HV.out]; rfl, ⟨F4.b, F4.hg⟩, F4.hB, F4.hk⟩
  · have ha' : a = 1 := by rw [ha, nextA, if_pos (by simpa using hs)]
    clear ha
    subst ha'
    have HBb' : Go.bits .xor .u64 1 8192 = b := HBb.symm
    have HB := Aside0.mk HBb'
    clear HBb'
    have HC := Aside0.mk HCc.symm
    have HD := Aside0.mk HDd.symm
    have HV := Aside0.mk HVv.symm
    clear HBb HCc HDd HVv hB
    have hs2 : (s0_0 != 0) = false := by simpa using hs
    have F1 := F0.set 1
    go_enter Try.func79, Try.ntmps79
    go_wp2
    refine wp_region_quiet_tail 13 (by kernel_rfl) (by kernel_rfl) ?_
    simp only [List.take_succ_cons, List.take_zero, List.drop_succ_cons, List.drop_zero]
    intro wd1 hwd1 hbd1
    have G1 := F1.same hwd1 hbd1
    have u1 := G1.c
    have v1 := G1.b.frozen 0
    clear hwd1 hbd1
    repeat (go_big_quiet_step (fail))
    refine wpQuiet_nil ?_
    go_wp2
    have F2 := G1.set (Go.bits .xor .u64 1 8192)
    rw [HB.out] at F2
    try rw [HB.out]
    clear u1 v1 G1 F1
    refine wp_region_quiet_tail 13 (by kernel_rfl) (by kernel_rfl) ?_
    simp only [List.take_succ_cons, List.take_zero, List.drop_succ_cons, List.drop_zero]
    intro wd2 hwd2 hbd2
    have G2 := F2.same hwd2 hbd2
    have u2 := G2.c
    have v2 := G2.b.frozen 0
    clear hwd2 hbd2
    repeat (go_big_quiet_step (fail))
    refine wpQuiet_nil ?_
    go_wp2
    have F3 := G2.set (Go.bits .xor .u64 b (b / 128))
    rw [HC.out] at F3
    try rw [HC.out]
    clear u2 v2 G2 F2
    refine wp_region_quiet_tail 13 (by kernel_rfl) (by kernel_rfl) ?_
    simp only [List.take_succ_cons, List.take_zero, List.drop_succ_cons, List.drop_zero]
    intro wd3 hwd3 hbd3
    have G3 := F3.same hwd3 hbd3
    have u3 := G3.c
    have v3 := G3.b.frozen 0
    clear hwd3 hbd3
    repeat (go_big_quiet_step (fail))
    refine wpQuiet_nil ?_
    go_wp2
    have F4 := G3.set (Go.bits .xor .u64 c (IntKind.u64.wrap (c * 131072)))
    rw [HD.out] at F4
    try rw [HD.out]
    clear u3 v3 G3 F3
    have u4 := F4.c
    go_wp2
    go_ret
    exact ⟨by rw [← HV.out]; rfl, ⟨F4.b, F4.hg⟩, F4.hB, F4.hk⟩
end Go.Proofs.Ytkdlbocjgbmbdaa.Print

namespace Go.Proofs.Ytkdlbocjgbmbdaa.Print
open Go.RowKit Go.Proofs.YtkdlbocjgbmbdaaW.PrintWords Go.Proofs.YtkdlbocjgbmbdaaW.PrintLast Go.Proofs.YtkdlbocjgbmbdaaW.PrintMore
attribute [local go_sem] max2_int min2_int max_two min_two max_three min_three max_four min_four   -- for this text's walks alone
set_option linter.unusedVariables false
set_option linter.unusedSimpArgs false
def swarfkit_Feed_Below.f (s0_0 : Int) (a1 : Int) : Option (Int × Int) := if a1 < 2 then (some (0, s0_0)) else ((swarfkit_Feed_next.f s0_0).bind fun bt257 => (if (IntKind.u64.wrap (a1)) = 0 then (none) else (some (wrap64 (Int.tmod (bt257.1 / 256) (IntKind.u64.wrap (a1))), bt257.2))))
set_option maxHeartbeats 8000000 in
set_option maxRecDepth 100000 in
theorem swarfkit_Feed_Below.calls (g : Nat) (s0_0 : Int) (a1 : Int) (r1 : Int) (r2 : Int) (w0 w : World) (hI : IsS124 w0 w g s0_0) (hB : Below w0.heap.size w0 w) (h : swarfkit_Feed_Below.f s0_0 a1 = some (r1, r2)) :
    Calls Try.prog 20 #[.pointer (some ⟨g, 0, none⟩), .int .i64 a1] w fun e w' => e = .returned (.int .i64 r1) ∧ IsS124 w0 w' g r2 ∧ Below w0.heap.size w0 w' ∧ KeepBut w w' g none := by
  have HI0 := Aside0.mk hI
  have HK := Aside0.mk (KeepBut.refl w g none)
  have HL := Aside0.mk hB.size
  clear hI
  have HW0 := Aside0.mk hB.size
  have HB := Aside0.mk hB
  clear hB
  have H : (if a1 < 2 then (some (0, s0_0)) else ((swarfkit_Feed_next.f s0_0).bind fun bt257 => (if (IntKind.u64.wrap (a1)) = 0 then (none) else (some (wrap64 (Int.tmod (bt257.1 / 256) (IntKind.u64.wrap (a1))), bt257.2))))) = some (r1, r2) := h
  clear h
  by_cases c3 : a1 < 2
  · rw [if_pos c3] at H
    have c3b0 : decide (a1 < 2) = true := decide_eq_true c3
    clear c3
    simp only [Option.some.injEq, Prod.mk.injEq] at H
    obtain ⟨rfl, rfl⟩ := H
    go_enter Try.func20, Try.ntmps20
    go_wp2
    go_ret
    exact ⟨by first | rfl | (simp [errW_none, errW_some] <;> rfl) | (simp [*, errW_none, errW_some] <;> rfl), by repeat (first | (with_reducible first | exact HI0.out | apply IsS124.alloc | apply IsS124.drewN | apply IsS124.drew | apply IsS124.set_0) | exact HI0.out), by repeat (first | (with_reducible first | exact HB.out | apply below_alloc | apply pw_below_drewN | apply below_drew1 | refine below_set ?_ (IsS124.ge HI0.out)) | exact HB.out), by repeat (first | (with_reducible first | exact HK.out | apply KeepBut.set_ | apply keep_drewN | apply keep_drew | apply keep_alloc) | exact HK.out)⟩
  · rw [if_neg c3] at H
    have c3b0 : decide (a1 < 2) = false := decide_eq_false c3
    clear c3
    replace H := Option.bind_eq_some_iff.mp H
    obtain ⟨⟨t257, t258⟩, A40, H⟩ := H
    replace H : (if (IntKind.u64.wrap (a1)) = 0 then (none) else (some (wrap64 (Int.tmod (t257 / 256) (IntKind.u64.wrap (a1))), t258))) = some (r1, r2) := H
    have A4 := Aside0.mk A40
    clear A40
    by_cases c5 : (IntKind.u64.wrap (a1)) = 0
    · rw [if_pos c5] at H
      exact absurd H (by simp)
    · rw [if_neg c5] at H
      have c5b0 : ((IntKind.u64.wrap (a1)) == 0) = false := beq_eq_false_iff_ne.mpr c5
      have c5b1 : ((IntKind.u64.wrap (a1)) != 0) = true := bne_iff_ne.mpr c5
      simp only [Option.some.injEq, Prod.mk.injEq] at H
      obtain ⟨rfl, rfl⟩ := H
      go_enter Try.func20, Try.ntmps20
      go_wp2_with (first | ((with_reducible refine gate_callee (f := 79) rfl ?_); refine goesL_ (some 8) rfl rfl Try.func79 (by kernel_rfl) rfl #[.pointer (some ⟨g, 0, none⟩)] rfl (by (try simp only [List.map_toArray, List.map_cons, List.map_nil]); first | done | rfl | (simp only [List.length_drop, List.length_take]; rfl)) ?_; (with_reducible refine (swarfkit_Feed_next.calls g s0_0 t257 t258 w0 _ ?side1 ?side2 A4.out).mono ?_); (case side1 => repeat (first | (with_reducible first | exact HI0.out | apply IsS124.alloc | apply IsS124.drewN | apply IsS124.drew | apply IsS124.set_0) | exact HI0.out)); (case side2 => repeat (first | (with_reducible first | exact HB.out | apply below_alloc | apply pw_below_drewN | apply below_drew1 | refine below_set ?_ (IsS124.ge HI0.out)) | exact HB.out)); rintro e w6 ⟨rfl, hi, hb, hk⟩; refine ⟨_, rfl, ?_⟩; have n0_ := Aside0.mk (KeepBut.trans (by repeat (first | (with_reducible first | exact HK.out | apply KeepBut.set_ | apply keep_drewN | apply keep_drew | apply keep_alloc) | exact HK.out)) hk (.inl rfl)); have n1_ := Aside0.mk (hb); have n2_ := Aside0.mk (hi); clear HK; clear HB; clear HI0; have HK := n0_; have HB := n1_; have HI0 := n2_; clear n0_ n1_ n2_; (try clear hb); (try clear hb2); (try clear hk); (try clear hi)))
      go_ret
      exact ⟨by first | rfl | (simp [errW_none, errW_some] <;> rfl) | (simp [*, errW_none, errW_some] <;> rfl), by repeat (first | (with_reducible first | exact HI0.out | apply IsS124.alloc | apply IsS124.drewN | apply IsS124.drew | apply IsS124.set_0) | exact HI0.out), by repeat (first | (with_reducible first | exact HB.out | apply below_alloc | apply pw_below_drewN | apply below_drew1 | refine below_set ?_ (IsS124.ge HI0.out)) | exact HB.out), by repeat (first | (with_reducible first | exact HK.out | apply KeepBut.set_ | apply keep_drewN | apply keep_drew | apply keep_alloc) | exact HK.out)⟩
def swarfkit_Feed_Either.f (s0_0 : Int) (l1 : List Int) : Option (Int × Int) := if (l1.length : Int) = 0 then (some (0, s0_0)) else ((swarfkit_Feed_Below.f s0_0 (l1.length : Int)).bind fun bt259 => (if 0 ≤ bt259.1 then (if bt259.1 < (l1.length : Int) then (some (rd l1 bt259.1, bt259.2)) else (none)) else (none)))
set_option maxHeartbeats 8000000 in
set_option maxRecDepth 100000 in
theorem swarfkit_Feed_Either.calls (g : Nat) (s0_0 : Int) (A1 : Option Addr) (c1 : Nat) (l1 : List Int) (r1 : Int) (r2 : Int) (w0 w : World) (hI : IsS124 w0 w g s0_0) (hB : Below w0.heap.size w0 w) (hr1 : Kd.C (Kd.int .i64) w A1 l1.length l1) (hc1 : l1.length ≤ c1) (hf1 : ∀ ad, A1 = some ad → 0 < l1.length → ad.block ≠ g) (h : swarfkit_Feed_Either.f s0_0 l1 = some (r1, r2)) :
    Calls Try.prog 22 #[.pointer (some ⟨g, 0, none⟩), .slice A1 l1.length c1] w fun e w' => e = .returned (.int .i64 r1) ∧ IsS124 w0 w' g r2 ∧ Below w0.heap.size w0 w' ∧ KeepBut w w' g none := by
  have HR1 := Aside0.mk hr1
  have HC1 := Aside0.mk hc1
  clear hr1 hc1
  have HI0 := Aside0.mk hI
  have HK := Aside0.mk (KeepBut.refl w g none)
  have HL := Aside0.mk hB.size
  clear hI
  have HW0 := Aside0.mk hB.size
  have HB := Aside0.mk hB
  clear hB
  have H : (if (l1.length : Int) = 0 then (some (0, s0_0)) else ((swarfkit_Feed_Below.f s0_0 (l1.length : Int)).bind fun bt259 => (if 0 ≤ bt259.1 then (if bt259.1 < (l1.length : Int) then (some (rd l1 bt259.1, bt259.2)) else (none)) else (none)))) = some (r1, r2) := h
  clear h
  by_cases c3 : (l1.length : Int) = 0
  · rw [if_pos c3] at H
    have c3b0 : ((l1.length : Int) == 0) = true := beq_iff_eq.mpr c3
    have c3b1 : ((l1.length : Int) != 0) = false := bne_eq_false_iff_eq.mpr c3
    clear c3
    simp only [Option.some.injEq, Prod.mk.injEq] at H
    obtain ⟨rfl, rfl⟩ := H
    go_enter Try.func22, Try.ntmps22
    go_wp2
    go_ret
    exact ⟨by first | rfl | (simp [errW_none, errW_some] <;> rfl) | (simp [*, errW_none, errW_some] <;> rfl), by repeat (first | (with_reducible first | exact HI0.out | apply IsS124.alloc | apply IsS124.drewN | apply IsS124.drew | apply IsS124.set_0) | exact HI0.out), by repeat (first | (with_reducible first | exact HB.out | apply below_alloc | apply pw_below_drewN | apply below_drew1 | refine below_set ?_ (IsS124.ge HI0.out)) | exact HB.out), by repeat (first | (with_reducible first | exact HK.out | apply KeepBut.set_ | apply keep_drewN | apply keep_drew | apply keep_alloc) | exact HK.out)⟩
  · rw [if_neg c3] at H
    have c3b0 : ((l1.length : Int) == 0) = false := beq_eq_false_iff_ne.mpr c3
    have c3b1 : ((l1.length : Int) != 0) = true := bne_iff_ne.mpr c3
    have c3b2 : ¬ (l1 = []) := fun h_ => c3 (by rw [h_]; rfl)
    replace H := Option.bind_eq_some_iff.mp H
    obtain ⟨⟨t259, t260⟩, A40, H⟩ := H
    replace H : (if 0 ≤ t259 then (if t259 < (l1.length : Int) then (some (rd l1 t259, t260)) else (none)) else (none)) = some (r1, r2) := H
    have A4 := Aside0.mk A40
    clear A40
    by_cases c5 : 0 ≤ t259
    · rw [if_pos c5] at H
      have c5b0 : decide (0 ≤ t259) = true := decide_eq_true c5
      clear c5
      by_cases c6 : t259 < (l1.length : Int)
      · rw [if_pos c6] at H
        have c6b0 : decide (t259 < (l1.length : Int)) = true := decide_eq_true c6
        clear c6
        simp only [Option.some.injEq, Prod.mk.injEq] at H
        obtain ⟨rfl, rfl⟩ := H
        go_enter Try.func22, Try.ntmps22
        go_wp2_with (first | ((with_reducible refine gate_callee (f := 20) rfl ?_); refine goesL_ (some 12) rfl rfl Try.func20 (by kernel_rfl) rfl #[.pointer (some ⟨g, 0, none⟩), .int .i64 (l1.length : Int)] rfl (by (try simp only [List.map_toArray, List.map_cons, List.map_nil]); first | done | rfl | (simp only [List.length_drop, List.length_take]; rfl)) ?_; (with_reducible refine (swarfkit_Feed_Below.calls g s0_0 (l1.length : Int) t259 t260 w0 _ ?side1 ?side2 A4.out).mono ?_); (case side1 => repeat (first | (with_reducible first | exact HI0.out | apply IsS124.alloc | apply IsS124.drewN | apply IsS124.drew | apply IsS124.set_0) | exact HI0.out)); (case side2 => repeat (first | (with_reducible first | exact HB.out | apply below_alloc | apply pw_below_drewN | apply below_drew1 | refine below_set ?_ (IsS124.ge HI0.out)) | exact HB.out)); rintro e w7 ⟨rfl, hi, hb, hk⟩; refine ⟨_, rfl, ?_⟩; have n0_ := Aside0.mk (KeepBut.trans (by repeat (first | (with_reducible first | exact HK.out | apply KeepBut.set_ | apply keep_drewN | apply keep_drew | apply keep_alloc) | exact HK.out)) hk (.inl rfl)); have n1_ := Aside0.mk (hb); have n2_ := Aside0.mk (hi); clear HK; clear HB; clear HI0; have HK := n0_; have HB := n1_; have HI0 := n2_; clear n0_ n1_ n2_; (try clear hb); (try clear hb2); (try clear hk); (try clear hi); have p261 : 0 ≤ (t259 : Int) := of_decide_eq_true (by first | (with_reducible assumption) | assumption); have q261 : t259 < (l1.length : Int) := of_decide_eq_true (by first | (with_reducible assumption) | assumption); obtain ⟨ad261, e261, hx261_0⟩ := Kd.at_int HR1.out t259 p261 q261; cases e261; replace hx261_0 := keep_cell HK.out hx261_0 (by first | (rw [add_block]; exact hf1 _ rfl (by omega)) | exact hf1 _ rfl (by omega) | exact hf1 ad261 rfl (by omega)); replace p261 := eq_true p261; replace q261 := eq_true q261))
        go_ret
        exact ⟨by first | rfl | (simp [errW_none, errW_some] <;> rfl) | (simp [*, errW_none, errW_some] <;> rfl), by repeat (first | (with_reducible first | exact HI0.out | apply IsS124.alloc | apply IsS124.drewN | apply IsS124.drew | apply IsS124.set_0) | exact HI0.out), by repeat (first | (with_reducible first | exact HB.out | apply below_alloc | apply pw_below_drewN | apply below_drew1 | refine below_set ?_ (IsS124.ge HI0.out)) | exact HB.out), by repeat (first | (with_reducible first | exact HK.out | apply KeepBut.set_ | apply keep_drewN | apply keep_drew | apply keep_alloc) | exact HK.out)⟩
      · rw [if_neg c6] at H
        exact absurd H (by simp)
    · rw [if_neg c5] at H
      exact absurd H (by simp)
def swarfkit_Feed_Between.f (s0_0 : Int) (a1 : Int) (a2 : Int) : Option (Int × Int) := (swarfkit_Feed_Below.f s0_0 (wrap64 ((wrap64 (a2 - a1)) + 1))).bind fun bt262 => (some (wrap64 (a1 + bt262.1), bt262.2))
set_option maxHeartbeats 8000000 in
set_option maxRecDepth 100000 in
theorem swarfkit_Feed_Between.calls (g : Nat) (s0_0 : Int) (a1 : Int) (a2 : Int) (r1 : Int) (r2 : Int) (w0 w : World) (hI : IsS124 w0 w g s0_0) (hB : Below w0.heap.size w0 w) (h : swarfkit_Feed_Between.f s0_0 a1 a2 = some (r1, r2)) :
    Calls Try.prog 25 #[.pointer (some ⟨g, 0, none⟩), .int .i64 a1, .int .i64 a2] w fun e w' => e = .returned (.int .i64 r1) ∧ IsS124 w0 w' g r2 ∧ Below w0.heap.size w0 w' ∧ KeepBut w w' g none := by
  have HI0 := Aside0.mk hI
  have HK := Aside0.mk (KeepBut.refl w g none)
  have HL := Aside0.mk hB.size
  clear hI
  have HW0 := Aside0.mk hB.size
  have HB := Aside0.mk hB
  clear hB
  have H : ((swarfkit_Feed_Below.f s0_0 (wrap64 ((wrap64 (a2 - a1)) + 1))).bind fun bt262 => (some (wrap64 (a1 + bt262.1), bt262.2))) = some (r1, r2) := h
  clear h
  replace H := Option.bind_eq_some_iff.mp H
  obtain ⟨⟨t262, t263⟩, A40, H⟩ := H
  replace H : (some (wrap64 (a1 + t262), t263)) = some (r1, r2) := H
  have A4 := Aside0.mk A40
  clear A40
  simp only [Option.some.injEq, Prod.mk.injEq] at H
  obtain ⟨rfl, rfl⟩ := H
  go_enter Try.func25, Try.ntmps25
  go_wp2_with (first | ((with_reducible refine gate_callee (f := 20) rfl ?_); refine goesL_ (some 13) rfl rfl Try.func20 (by kernel_rfl) rfl #[.pointer (some ⟨g, 0, none⟩), .int .i64 (wrap64 ((wrap64 (a2 - a1)) + 1))] rfl (by (try simp only [List.map_toArray, List.map_cons, List.map_nil]); first | done | rfl | (simp only [List.length_drop, List.length_take]; rfl)) ?_; (with_reducible refine (swarfkit_Feed_Below.calls g s0_0 (wrap64 ((wrap64 (a2 - a1)) + 1)) t262 t263 w0 _ ?side1 ?side2 A4.out).mono ?_); (case side1 => repeat (first | (with_reducible first | exact HI0.out | apply IsS124.alloc | apply IsS124.drewN | apply IsS124.drew | apply IsS124.set_0) | exact HI0.out)); (case side2 => repeat (first | (with_reducible first | exact HB.out | apply below_alloc | apply pw_below_drewN | apply below_drew1 | refine below_set ?_ (IsS124.ge HI0.out)) | exact HB.out)); rintro e w5 ⟨rfl, hi, hb, hk⟩; refine ⟨_, rfl, ?_⟩; have n0_ := Aside0.mk (KeepBut.trans (by repeat (first | (with_reducible first | exact HK.out | apply KeepBut.set_ | apply keep_drewN | apply keep_drew | apply keep_alloc) | exact HK.out)) hk (.inl rfl)); have n1_ := Aside0.mk (hb); have n2_ := Aside0.mk (hi); clear HK; clear HB; clear HI0; have HK := n0_; have HB := n1_; have HI0 := n2_; clear n0_ n1_ n2_; (try clear hb); (try clear hb2); (try clear hk); (try clear hi)))
  go_ret
  exact ⟨by first | rfl | (simp [errW_none, errW_some] <;> rfl) | (simp [*, errW_none, errW_some] <;> rfl), by repeat (first | (with_reducible first | exact HI0.out | apply IsS124.alloc | apply IsS124.drewN | apply IsS124.drew | apply IsS124.set_0) | exact HI0.out), by repeat (first | (with_reducible first | exact HB.out | apply below_alloc | apply pw_below_drewN | apply below_drew1 | refine below_set ?_ (IsS124.ge HI0.out)) | exact HB.out), by repeat (first | (with_reducible first | exact HK.out | apply KeepBut.set_ | apply keep_drewN | apply keep_drew | apply keep_alloc) | exact HK.out)⟩
def swarfkit_FixesOf.l0 : Nat → List (S26) → Int → Int → Int → Option ((List (S26)) × Int)
  | 0, _, _, _, _ => none
  | k + 1, x5, x6, x7, x1000 => if x7 > 0 then ((swarfkit_Feed_Below.f x1000 1000).bind fun bt268 => ((swarfkit_Feed_Below.f bt268.2 100000001).bind fun bt270 => ((swarfkit_Feed_Either.f bt270.2 (([0, bt268.1, bt270.1] : List Int))).bind fun bt275 => (if x5.length < 8796093022208 then ((swarfkit_Feed_Between.f bt275.2 1 9).bind fun bt280 => (swarfkit_FixesOf.l0 k (x5 ++ [(⟨x6, bt275.1⟩ : S26)]) (wrap64 (x6 + bt280.1)) (wrap64 (x7 - 1)) bt280.2)) else (none))))) else (some (x5, x1000))
def swarfkit_FixesOf.f (k : Nat) (s0_0 : Int) (a1 : Int) : Option ((List (S26)) × Int) := (swarfkit_Feed_Below.f s0_0 10).bind fun bt264 => ((swarfkit_Feed_Below.f bt264.2 (wrap64 (a1 + 1))).bind fun bt266 => (swarfkit_FixesOf.l0 k ([] : List (S26)) bt264.1 bt266.1 bt266.2))
theorem swarfkit_FixesOf.mono_l : ∀ k, (∀ y0 y1 y2 y3, LeO (swarfkit_FixesOf.l0 k y0 y1 y2 y3) (swarfkit_FixesOf.l0 (k + 1) y0 y1 y2 y3))
  | 0 => fun _ _ _ _ r h => by simp [swarfkit_FixesOf.l0] at h
  | k + 1 => by
    have ih0 := swarfkit_FixesOf.mono_l k
    · intro y0 y1 y2 y3
      unfold swarfkit_FixesOf.l0
      repeat' first
      | (with_reducible exact ih0 _ _ _ _)
      | (with_reducible exact LeO.refl _)
      | (with_reducible exact LeO.none _)
      | (with_reducible refine LeO.ite ?_ ?_)
      | (with_reducible refine LeO.bind ?_ (fun _ => ?_))
      | exact ih0 _ _ _ _
      | exact LeO.none _
      | refine LeO.ite ?_ ?_
      | refine LeO.bind ?_ (fun _ => ?_)
theorem swarfkit_FixesOf.mono : ∀ a0 a1 k, LeO (swarfkit_FixesOf.f k a0 a1) (swarfkit_FixesOf.f (k + 1) a0 a1) := by
  intro a0 a1 k
  have ih0 := swarfkit_FixesOf.mono_l k
  unfold swarfkit_FixesOf.f
  repeat' first
      | (with_reducible exact ih0 _ _ _ _)
      | (with_reducible exact LeO.refl _)
      | (with_reducible exact LeO.none _)
      | (with_reducible refine LeO.ite ?_ ?_)
      | (with_reducible refine LeO.bind ?_ (fun _ => ?_))
      | exact ih0 _ _ _ _
      | exact LeO.none _
      | refine LeO.ite ?_ ?_
      | refine LeO.bind ?_ (fun _ => ?_)
set_option maxHeartbeats 8000000 in
set_option maxRecDepth 100000 in
theorem swarfkit_FixesOf.calls (k : Nat) (g : Nat) (s0_0 : Int) (a1 : Int) (r1 : List (S26)) (r2 : Int) (w0 w : World) (hI : IsS124 w0 w g s0_0) (hB : Below w0.heap.size w0 w) (h : swarfkit_FixesOf.f k s0_0 a1 = some (r1, r2)) :
    Calls Try.prog 18 #[.pointer (some ⟨g, 0, none⟩), .int .i64 a1] w fun e w' => ∃ v0_ : Value, e = .returned (v0_) ∧ Kd.R k26 26 w' w.heap.size (fun _ => True) v0_ r1 ∧ IsS124 w0 w' g r2 ∧ Below w0.heap.size w0 w' ∧ KeepBut w w' g none := by
  have hu26 := Try.underlying26
  have HI0 := Aside0.mk hI
  have HK := Aside0.mk (KeepBut.refl w g none)
  have HL := Aside0.mk hB.size
  clear hI
  have HW0 := Aside0.mk hB.size
  have HB := Aside0.mk hB
  clear hB
  have H : ((swarfkit_Feed_Below.f s0_0 10).bind fun bt264 => ((swarfkit_Feed_Below.f bt264.2 (wrap64 (a1 + 1))).bind fun bt266 => (swarfkit_FixesOf.l0 k ([] : List (S26)) bt264.1 bt266.1 bt266.2))) = some (r1, r2) := h
  clear h
  replace H := Option.bind_eq_some_iff.mp H
  obtain ⟨⟨t264, t265⟩, A30, H⟩ := H
  replace H : ((swarfkit_Feed_Below.f t265 (wrap64 (a1 + 1))).bind fun bt266 => (swarfkit_FixesOf.l0 k ([] : List (S26)) t264 bt266.1 bt266.2)) = some (r1, r2) := H
  have A3 := Aside0.mk A30
  clear A30
  replace H := Option.bind_eq_some_iff.mp H
  obtain ⟨⟨t266, t267⟩, A40, H⟩ := H
  replace H : (swarfkit_FixesOf.l0 k ([] : List (S26)) t264 t266 t267) = some (r1, r2) := H
  have A4 := Aside0.mk A40
  clear A40
  have H' := Aside0.mk H
  clear H
  go_enter Try.func18, Try.ntmps18
  go_wp2_with (first | ((with_reducible refine gate_callee (f := 20) rfl ?_); refine goesL_ (some 9) rfl rfl Try.func20 (by kernel_rfl) rfl #[.pointer (some ⟨g, 0, none⟩), .int .i64 10] rfl (by (try simp only [List.map_toArray, List.map_cons, List.map_nil]); first | done | rfl | (simp only [List.length_drop, List.length_take]; rfl)) ?_; (with_reducible refine (swarfkit_Feed_Below.calls g s0_0 10 t264 t265 w0 _ ?side1 ?side2 A3.out).mono ?_); (case side1 => repeat (first | (with_reducible first | exact HI0.out | apply IsS124.alloc | apply IsS124.drewN | apply IsS124.drew | apply IsS124.set_0) | exact HI0.out)); (case side2 => repeat (first | (with_reducible first | exact HB.out | apply below_alloc | apply pw_below_drewN | apply below_drew1 | refine below_set ?_ (IsS124.ge HI0.out)) | exact HB.out)); rintro e w5 ⟨rfl, hi, hb, hk⟩; refine ⟨_, rfl, ?_⟩; have n0_ := Aside0.mk (KeepBut.trans (by repeat (first | (with_reducible first | exact HK.out | apply KeepBut.set_ | apply keep_drewN | apply keep_drew | apply keep_alloc) | exact HK.out)) hk (.inl rfl)); have n1_ := Aside0.mk (hb); have n2_ := Aside0.mk (hi); clear HK; clear HB; clear HI0; have HK := n0_; have HB := n1_; have HI0 := n2_; clear n0_ n1_ n2_; (try clear hb); (try clear hb2); (try clear hk); (try clear hi)) | ((with_reducible refine gate_callee (f := 20) rfl ?_); refine goesL_ (some 13) rfl rfl Try.func20 (by kernel_rfl) rfl #[.pointer (some ⟨g, 0, none⟩), .int .i64 (wrap64 (a1 + 1))] rfl (by (try simp only [List.map_toArray, List.map_cons, List.map_nil]); first | done | rfl | (simp only [List.length_drop, List.length_take]; rfl)) ?_; (with_reducible refine (swarfkit_Feed_Below.calls g t265 (wrap64 (a1 + 1)) t266 t267 w0 _ ?side1 ?side2 A4.out).mono ?_); (case side1 => repeat (first | (with_reducible first | exact HI0.out | apply IsS124.alloc | apply IsS124.drewN | apply IsS124.drew | apply IsS124.set_0) | exact HI0.out)); (case side2 => repeat (first | (with_reducible first | exact HB.out | apply below_alloc | apply pw_below_drewN | apply below_drew1 | refine below_set ?_ (IsS124.ge HI0.out)) | exact HB.out)); rintro e w6 ⟨rfl, hi, hb, hk⟩; refine ⟨_, rfl, ?_⟩; have n0_ := Aside0.mk (KeepBut.trans (by repeat (first | (with_reducible first | exact HK.out | apply KeepBut.set_ | apply keep_drewN | apply keep_drew | apply keep_alloc) | exact HK.out)) hk (.inl rfl)); have n1_ := Aside0.mk (hb); have n2_ := Aside0.mk (hi); clear HK; clear HB; clear HI0; have HK := n0_; have HB := n1_; have HI0 := n2_; clear n0_ n1_ n2_; (try clear hb); (try clear hb2); (try clear hk); (try clear hi)))
  go_loopg [5, 6, 7] k (fun kq v5 v6 v7 w' => ∃ (x5_1 : List (S26)) (x6_1 : Int) (x7_1 : Int) (x1000_1 : Int), v6 = .int .i64 x6_1 ∧ v7 = .int .i64 x7_1 ∧ Aside0 (swarfkit_FixesOf.l0 kq x5_1 x6_1 x7_1 x1000_1 = some (r1, r2)) ∧ Aside0 (kq ≤ k) ∧ Aside0 (Kd.R k26 26 w' w.heap.size (fun _ => True) v5 x5_1) ∧ Aside0 (IsS124 w0 w' g x1000_1) ∧ Aside0 (KeepBut w w' g none) ∧ Aside0 (Below w0.heap.size w0 w'))
  case atStart => exact ⟨(([] : List (S26))), (t264), (t266), (t267), (by first | rfl | (simp; done) | (simp [*]; done)), (by first | rfl | (simp; done) | (simp [*]; done)), H', ⟨Nat.le_refl _⟩, ⟨by first | exact Kd.R_nil _ _ _ _ _ | exact Kd.N_nil _ _ _ _ _ | exact Kd.V_nil _ _ _ _ _ | exact Kd.Q_nil _ _ _ _ _ | exact Kd.S_nil _ _ _ _ _⟩, ⟨by repeat (first | (with_reducible first | exact HI0.out | apply IsS124.alloc | apply IsS124.drewN | apply IsS124.drew | apply IsS124.set_0) | exact HI0.out)⟩, ⟨by repeat (first | (with_reducible first | exact HK.out | apply KeepBut.set_ | apply keep_drewN | apply keep_drew | apply keep_alloc) | exact HK.out)⟩, ⟨by repeat (first | (with_reducible first | exact HB.out | apply below_alloc | apply pw_below_drewN | apply below_drew1 | refine below_set ?_ (IsS124.ge HI0.out)) | exact HB.out)⟩⟩
  case round =>
    clear H'
    try clear c1
    try clear c2
    try clear p2
    try clear p6
    obtain ⟨x5_1, x6_1, x7_1, x1000_1, rfl, rfl, HA, HK1, HO_5, HI0, HK, HB⟩ := hrel
    cases gk with
    | zero => exact absurd HA.out (by simp [swarfkit_FixesOf.l0])
    | succ k1 =>
      have H := HA.out
      clear HA
      simp only [swarfkit_FixesOf.l0] at H
      by_cases c7 : x7_1 > 0
      · rw [if_pos c7] at H
        have c7b0 : decide (0 < x7_1) = true := decide_eq_true c7
        clear c7
        replace H := Option.bind_eq_some_iff.mp H
        obtain ⟨⟨t268, t269⟩, A80, H⟩ := H
        replace H : ((swarfkit_Feed_Below.f t269 100000001).bind fun bt270 => ((swarfkit_Feed_Either.f bt270.2 (([0, t268, bt270.1] : List Int))).bind fun bt275 => (if x5_1.length < 8796093022208 then ((swarfkit_Feed_Between.f bt275.2 1 9).bind fun bt280 => (swarfkit_FixesOf.l0 k1 (x5_1 ++ [(⟨x6_1, bt275.1⟩ : S26)]) (wrap64 (x6_1 + bt280.1)) (wrap64 (x7_1 - 1)) bt280.2)) else (none)))) = some (r1, r2) := H
        have A8 := Aside0.mk A80
        clear A80
        replace H := Option.bind_eq_some_iff.mp H
        obtain ⟨⟨t270, t271⟩, A90, H⟩ := H
        replace H : ((swarfkit_Feed_Either.f t271 (([0, t268, t270] : List Int))).bind fun bt275 => (if x5_1.length < 8796093022208 then ((swarfkit_Feed_Between.f bt275.2 1 9).bind fun bt280 => (swarfkit_FixesOf.l0 k1 (x5_1 ++ [(⟨x6_1, bt275.1⟩ : S26)]) (wrap64 (x6_1 + bt280.1)) (wrap64 (x7_1 - 1)) bt280.2)) else (none))) = some (r1, r2) := H
        have A9 := Aside0.mk A90
        clear A90
        obtain ⟨y272, hy272⟩ : ∃ y_ : List Int, y_ = (([0, t268, t270] : List Int)) := ⟨_, rfl⟩
        replace H : ((swarfkit_Feed_Either.f t271 y272).bind fun bt275 => (if x5_1.length < 8796093022208 then ((swarfkit_Feed_Between.f bt275.2 1 9).bind fun bt280 => (swarfkit_FixesOf.l0 k1 (x5_1 ++ [(⟨x6_1, bt275.1⟩ : S26)]) (wrap64 (x6_1 + bt280.1)) (wrap64 (x7_1 - 1)) bt280.2)) else (none))) = some (r1, r2) := by first | (rw [hy272]; with_reducible exact H) | (have H2_ := (Option.bind_some _ _).symm.trans H; rw [hy272]; with_reducible exact H2_) | (have H2_ := (Option.bind_some _ _).symm.trans H; with_reducible exact H2_) | with_reducible exact H | (rw [hy272]; exact H) | exact H
        have Ny272 := Aside0.mk hy272
        clear hy272
        replace H := Option.bind_eq_some_iff.mp H
        obtain ⟨⟨t275, t276⟩, A100, H⟩ := H
        replace H : (if x5_1.length < 8796093022208 then ((swarfkit_Feed_Between.f t276 1 9).bind fun bt280 => (swarfkit_FixesOf.l0 k1 (x5_1 ++ [(⟨x6_1, t275⟩ : S26)]) (wrap64 (x6_1 + bt280.1)) (wrap64 (x7_1 - 1)) bt280.2)) else (none)) = some (r1, r2) := H
        have A10 := Aside0.mk A100
        clear A100
        by_cases c11 : x5_1.length < 8796093022208
        · rw [if_pos c11] at H
          have LMc11 := Aside0.mk c11
          clear c11
          obtain ⟨y277, hy277⟩ : ∃ y_ : List (S26), y_ = (x5_1 ++ [(⟨x6_1, t275⟩ : S26)]) := ⟨_, rfl⟩
          replace H : ((swarfkit_Feed_Between.f t276 1 9).bind fun bt280 => (swarfkit_FixesOf.l0 k1 y277 (wrap64 (x6_1 + bt280.1)) (wrap64 (x7_1 - 1)) bt280.2)) = some (r1, r2) := by first | (rw [hy277]; with_reducible exact H) | (have H2_ := (Option.bind_some _ _).symm.trans H; rw [hy277]; with_reducible exact H2_) | (have H2_ := (Option.bind_some _ _).symm.trans H; with_reducible exact H2_) | with_reducible exact H | (rw [hy277]; exact H) | exact H
          have Ny277 := Aside0.mk hy277
          clear hy277
          replace H := Option.bind_eq_some_iff.mp H
          obtain ⟨⟨t280, t281⟩, A120, H⟩ := H
          replace H : (swarfkit_FixesOf.l0 k1 y277 (wrap64 (x6_1 + t280)) (wrap64 (x7_1 - 1)) t281) = some (r1, r2) := H
          have A12 := Aside0.mk A120
          clear A120
          have H' := Aside0.mk H
          clear H
          go_wp2_with (first | ((with_reducible refine gate_callee (f := 20) rfl ?_); refine goesL_ (some 22) rfl rfl Try.func20 (by kernel_rfl) rfl #[.pointer (some ⟨g, 0, none⟩), .int .i64 1000] rfl (by (try simp only [List.map_toArray, List.map_cons, List.map_nil]); first | done | rfl | (simp only [List.length_drop, List.length_take]; rfl)) ?_; (with_reducible refine (swarfkit_Feed_Below.calls g x1000_1 1000 t268 t269 w0 _ ?side1 ?side2 A8.out).mono ?_); (case side1 => repeat (first | (with_reducible first | exact HI0.out | apply IsS124.alloc | apply IsS124.drewN | apply IsS124.drew | apply IsS124.set_0) | exact HI0.out)); (case side2 => repeat (first | (with_reducible first | exact HB.out | apply below_alloc | apply pw_below_drewN | apply below_drew1 | refine below_set ?_ (IsS124.ge HI0.out)) | exact HB.out)); rintro e w13 ⟨rfl, hi, hb, hk⟩; refine ⟨_, rfl, ?_⟩; have n0_ := Aside0.mk (Kd.R_mono (Kd.R_keep (IsS124.apart (show IsS124 w0 _ g x1000_1 from by repeat (first | (with_reducible first | exact HI0.out | apply IsS124.alloc | apply IsS124.drewN | apply IsS124.drew | apply IsS124.set_0) | exact HI0.out)) (by (with_reducible repeat (first | apply Kd.R_alloc | apply Kd.R_drewN | apply Kd.R_drew)); exact HO_5.out) (by decide)) hk (fun _ h => h.2)) (fun _ h => h.1)); have n1_ := Aside0.mk (KeepBut.trans (by repeat (first | (with_reducible first | exact HK.out | apply KeepBut.set_ | apply keep_drewN | apply keep_drew | apply keep_alloc) | exact HK.out)) hk (.inl rfl)); have n2_ := Aside0.mk (hb); have n3_ := Aside0.mk (hi); clear HO_5; clear HK; clear HB; clear HI0; have HO_5 := n0_; have HK := n1_; have HB := n2_; have HI0 := n3_; clear n0_ n1_ n2_ n3_; (try clear hb); (try clear hb2); (try clear hk); (try clear hi)) | ((with_reducible refine gate_callee (f := 20) rfl ?_); refine goesL_ (some 24) rfl rfl Try.func20 (by kernel_rfl) rfl #[.pointer (some ⟨g, 0, none⟩), .int .i64 100000001] rfl (by (try simp only [List.map_toArray, List.map_cons, List.map_nil]); first | done | rfl | (simp only [List.length_drop, List.length_take]; rfl)) ?_; (with_reducible refine (swarfkit_Feed_Below.calls g t269 100000001 t270 t271 w0 _ ?side1 ?side2 A9.out).mono ?_); (case side1 => repeat (first | (with_reducible first | exact HI0.out | apply IsS124.alloc | apply IsS124.drewN | apply IsS124.drew | apply IsS124.set_0) | exact HI0.out)); (case side2 => repeat (first | (with_reducible first | exact HB.out | apply below_alloc | apply pw_below_drewN | apply below_drew1 | refine below_set ?_ (IsS124.ge HI0.out)) | exact HB.out)); rintro e w14 ⟨rfl, hi, hb, hk⟩; refine ⟨_, rfl, ?_⟩; have n0_ := Aside0.mk (Kd.R_mono (Kd.R_keep (IsS124.apart (show IsS124 w0 _ g t269 from by repeat (first | (with_reducible first | exact HI0.out | apply IsS124.alloc | apply IsS124.drewN | apply IsS124.drew | apply IsS124.set_0) | exact HI0.out)) (by (with_reducible repeat (first | apply Kd.R_alloc | apply Kd.R_drewN | apply Kd.R_drew)); exact HO_5.out) (by decide)) hk (fun _ h => h.2)) (fun _ h => h.1)); have n1_ := Aside0.mk (KeepBut.trans (by repeat (first | (with_reducible first | exact HK.out | apply KeepBut.set_ | apply keep_drewN | apply keep_drew | apply keep_alloc) | exact HK.out)) hk (.inl rfl)); have n2_ := Aside0.mk (hb); have n3_ := Aside0.mk (hi); clear HO_5; clear HK; clear HB; clear HI0; have HO_5 := n0_; have HK := n1_; have HB := n2_; have HI0 := n3_; clear n0_ n1_ n2_ n3_; (try clear hb); (try clear hb2); (try clear hk); (try clear hi)) | ((with_reducible refine gate_dst (N := 25) rfl ?_); refine Kd.R_lit (Kd.int .i64) _ 3 ?hg (N := 25) ?hd (xs := ([0, t268, t270] : List Int)) (inner := [.int .i64 0, .int .i64 t268, .int .i64 t270]) (ok := fun _ => True) (okp := fun _ => True) ?hr ?hp (fun _ hk => hk) trivial (Below.refl _ _) (Nat.le_refl _) (by simp) ?_; (case hd => rfl); (case hg => rfl); (case hr => first | (go_simp; done) | (go_simp; rfl)); (case hp => exact (Reps.one (show Kd.M (Kd.int .i64) _ _ _ 0 [.int .i64 0] from rfl) (Reps.one (show Kd.M (Kd.int .i64) _ _ _ t268 [.int .i64 t268] from rfl) (Reps.one (show Kd.M (Kd.int .i64) _ _ _ t270 [.int .i64 t270] from rfl) (Reps.none _ _))))); intro v273 w15 ho16 hb hg_ hnew_; clear hg_ hnew_; (first | rw [← Ny272.out] at ho16 | (simp only [Int.reduceToNat] at ho16; rw [← Ny272.out] at ho16)); have n0_ := Aside0.mk (Kd.R_below (by (with_reducible repeat (first | apply Kd.R_alloc | apply Kd.R_drewN | apply Kd.R_drew)); exact HO_5.out) hb); have n1_ := Aside0.mk (Kd.R_lower ho16 (keep_size (w := w) (g := g) (row := none) (by repeat (first | (with_reducible first | exact HK.out | apply KeepBut.set_ | apply keep_drewN | apply keep_drew | apply keep_alloc) | exact HK.out)))); have n2_ := Aside0.mk (IsS124.below (by repeat (first | (with_reducible first | exact HI0.out | apply IsS124.alloc | apply IsS124.drewN | apply IsS124.drew | apply IsS124.set_0) | exact HI0.out)) hb); have n3_ := Aside0.mk (KeepBut.trans (by repeat (first | (with_reducible first | exact HK.out | apply KeepBut.set_ | apply keep_drewN | apply keep_drew | apply keep_alloc) | exact HK.out)) (KeepBut.of_below hb g none) (.inl rfl)); have n4_ := Aside0.mk (below_step (by repeat (first | (with_reducible first | exact HB.out | apply below_alloc | apply pw_below_drewN | apply below_drew1 | refine below_set ?_ (IsS124.ge HI0.out)) | exact HB.out)) hb); clear HO_5; clear HI0; clear HK; clear HB; have HO_5 := n0_; have HO274 := n1_; have HI0 := n2_; have HK := n3_; have HB := n4_; clear n0_ n1_ n2_ n3_ n4_; clear hb ho16; obtain ⟨Ao17, co17, eo17⟩ := Kd.R_slice HO274.out; subst eo17) | ((with_reducible refine gate_callee (f := 22) rfl ?_); refine goesL_ (some 26) rfl rfl Try.func22 (by kernel_rfl) rfl #[.pointer (some ⟨g, 0, none⟩), .slice Ao17 y272.length co17] rfl (by (try simp only [List.map_toArray, List.map_cons, List.map_nil]); first | done | rfl | (simp only [List.length_drop, List.length_take]; rfl)) ?_; (with_reducible refine (swarfkit_Feed_Either.calls g t271 _ _ y272 t275 t276 w0 _ ?side1 ?side2 ?side3 ?side4 ?side5 A10.out).mono ?_); (case side1 => repeat (first | (with_reducible first | exact HI0.out | apply IsS124.alloc | apply IsS124.drewN | apply IsS124.drew | apply IsS124.set_0) | exact HI0.out)); (case side2 => repeat (first | (with_reducible first | exact HB.out | apply below_alloc | apply pw_below_drewN | apply below_drew1 | refine below_set ?_ (IsS124.ge HI0.out)) | exact HB.out)); (case side3 => repeat (first | exact (Kd.R_reads' HO274.out).2.2 | (with_reducible refine Kd.C_alloc ?_ _) | (with_reducible refine Kd.C_drewN ?_ _) | (with_reducible refine Kd.C_drew ?_))); (case side4 => exact (Kd.R_reads' HO274.out).2.1); (case side5 => exact far_slice (IsS124.own_ne HI0.out HO274.out (by decide))); rintro e w18 ⟨rfl, hi, hb, hk⟩; refine ⟨_, rfl, ?_⟩; have n0_ := Aside0.mk (Kd.R_mono (Kd.R_keep (IsS124.apart (show IsS124 w0 _ g t271 from by repeat (first | (with_reducible first | exact HI0.out | apply IsS124.alloc | apply IsS124.drewN | apply IsS124.drew | apply IsS124.set_0) | exact HI0.out)) (by (with_reducible repeat (first | apply Kd.R_alloc | apply Kd.R_drewN | apply Kd.R_drew)); exact HO_5.out) (by decide)) hk (fun _ h => h.2)) (fun _ h => h.1)); have n1_ := Aside0.mk (Kd.R_mono (Kd.R_keep (IsS124.apart (show IsS124 w0 _ g t271 from by repeat (first | (with_reducible first | exact HI0.out | apply IsS124.alloc | apply IsS124.drewN | apply IsS124.drew | apply IsS124.set_0) | exact HI0.out)) (by (with_reducible repeat (first | apply Kd.R_alloc | apply Kd.R_drewN | apply Kd.R_drew)); exact HO274.out) (by decide)) hk (fun _ h => h.2)) (fun _ h => h.1)); have n2_ := Aside0.mk (KeepBut.trans (by repeat (first | (with_reducible first | exact HK.out | apply KeepBut.set_ | apply keep_drewN | apply keep_drew | apply keep_alloc) | exact HK.out)) hk (.inl rfl)); have n3_ := Aside0.mk (hb); have n4_ := Aside0.mk (hi); clear HO_5; clear HO274; clear HK; clear HB; clear HI0; have HO_5 := n0_; have HO274 := n1_; have HK := n2_; have HB := n3_; have HI0 := n4_; clear n0_ n1_ n2_ n3_ n4_; (try clear hb); (try clear hb2); (try clear hk); (try clear hi)) | ((with_reducible refine gate_builtin (b := .append) (xs := #[.tmp 18, .tmp 28]) rfl ?_); at_builtin; refine Kd.R_append k26 w.heap.size rfl (.tmp 18) (.tmp 28) 22 26 (.agg #[(.int .i64 0), (.int .i64 0)]) 16 rfl Try.underlying22 info26 rfl (by decide) (by omega) u5 x5_1 (⟨x6_1, t275⟩ : S26) [.int .i64 x6_1, .int .i64 t275] (fun _ => True) (fun _ => False) rfl rfl ?aP (fun _ hk => hk.elim) ?aF ?aO (Below.refl _ _) ?aS ?aL ?_; (case aP => exact k26_mkM _ _ _ (⟨x6_1, t275⟩ : S26)); (case aF => exact (fun _ _ => trivial)); (case aO => exact (by (with_reducible repeat (first | apply Kd.R_alloc | apply Kd.R_drewN | apply Kd.R_drew)); exact HO_5.out)); (case aS => exact (keep_size (w := w) (g := g) (row := none) (by repeat (first | (with_reducible first | exact HK.out | apply KeepBut.set_ | apply keep_drewN | apply keep_drew | apply keep_alloc) | exact HK.out)))); (case aL => have := LMc11.out; omega); intro v278 w19 ho hb hg hat; rw [← Ny277.out] at ho; have n0_ := Aside0.mk (IsS124.grown (by repeat (first | (with_reducible first | exact HI0.out | apply IsS124.alloc | apply IsS124.drewN | apply IsS124.drew | apply IsS124.set_0) | exact HI0.out)) hg (IsS124.own_ne HI0.out HO_5.out (by decide))); have n1_ := Aside0.mk (Kd.R_over' (by (with_reducible repeat (first | apply Kd.R_alloc | apply Kd.R_drewN | apply Kd.R_drew)); exact HO274.out) (Kd.R_typed (by (with_reducible repeat (first | apply Kd.R_alloc | apply Kd.R_drewN | apply Kd.R_drew)); exact HO_5.out)) (by decide) hg); have n2_ := Aside0.mk (below_weaken (by repeat (first | (with_reducible first | exact HB.out | apply below_alloc | apply pw_below_drewN | apply below_drew1 | refine below_set ?_ (IsS124.ge HI0.out)) | exact HB.out)) HL.out hb); have n3_ := Aside0.mk (KeepBut.trans (by repeat (first | (with_reducible first | exact HK.out | apply KeepBut.set_ | apply keep_drewN | apply keep_drew | apply keep_alloc) | exact HK.out)) (KeepBut.of_grown hg g) (Kd.R_base2 HO_5.out)); have n4_ := Aside0.mk (ho); clear HI0; clear HO274; clear HB; clear HK; clear HO_5; have HI0 := n0_; have HO274 := n1_; have HB := n2_; have HK := n3_; have HO279 := n4_; clear n0_ n1_ n2_ n3_ n4_; clear ho hb hg hat) | ((with_reducible refine gate_callee (f := 25) rfl ?_); refine goesL_ (some 32) rfl rfl Try.func25 (by kernel_rfl) rfl #[.pointer (some ⟨g, 0, none⟩), .int .i64 1, .int .i64 9] rfl (by (try simp only [List.map_toArray, List.map_cons, List.map_nil]); first | done | rfl | (simp only [List.length_drop, List.length_take]; rfl)) ?_; (with_reducible refine (swarfkit_Feed_Between.calls g t276 1 9 t280 t281 w0 _ ?side1 ?side2 A12.out).mono ?_); (case side1 => repeat (first | (with_reducible first | exact HI0.out | apply IsS124.alloc | apply IsS124.drewN | apply IsS124.drew | apply IsS124.set_0) | exact HI0.out)); (case side2 => repeat (first | (with_reducible first | exact HB.out | apply below_alloc | apply pw_below_drewN | apply below_drew1 | refine below_set ?_ (IsS124.ge HI0.out)) | exact HB.out)); rintro e w20 ⟨rfl, hi, hb, hk⟩; refine ⟨_, rfl, ?_⟩; have n0_ := Aside0.mk (Kd.R_mono (Kd.R_keep (IsS124.apart (show IsS124 w0 _ g t276 from by repeat (first | (with_reducible first | exact HI0.out | apply IsS124.alloc | apply IsS124.drewN | apply IsS124.drew | apply IsS124.set_0) | exact HI0.out)) (by (with_reducible repeat (first | apply Kd.R_alloc | apply Kd.R_drewN | apply Kd.R_drew)); exact HO274.out) (by decide)) hk (fun _ h => h.2)) (fun _ h => h.1)); have n1_ := Aside0.mk (Kd.R_mono (Kd.R_keep (IsS124.apart (show IsS124 w0 _ g t276 from by repeat (first | (with_reducible first | exact HI0.out | apply IsS124.alloc | apply IsS124.drewN | apply IsS124.drew | apply IsS124.set_0) | exact HI0.out)) (by (with_reducible repeat (first | apply Kd.R_alloc | apply Kd.R_drewN | apply Kd.R_drew)); exact HO279.out) (by decide)) hk (fun _ h => h.2)) (fun _ h => h.1)); have n2_ := Aside0.mk (KeepBut.trans (by repeat (first | (with_reducible first | exact HK.out | apply KeepBut.set_ | apply keep_drewN | apply keep_drew | apply keep_alloc) | exact HK.out)) hk (.inl rfl)); have n3_ := Aside0.mk (hb); have n4_ := Aside0.mk (hi); clear HO274; clear HO279; clear HK; clear HB; clear HI0; have HO274 := n0_; have HO279 := n1_; have HK := n2_; have HB := n3_; have HI0 := n4_; clear n0_ n1_ n2_ n3_ n4_; (try clear hb); (try clear hb2); (try clear hk); (try clear hi)))
          go_roundg k1
          case measure => have := HK1.out; omega
          case rel => exact ⟨(y277), (wrap64 (x6_1 + t280)), (wrap64 (x7_1 - 1)), (t281), (by first | rfl | (simp; done) | (simp [*]; done)), (by first | rfl | (simp; done) | (simp [*]; done)), H', ⟨by have := HK1.out; omega⟩, ⟨by (with_reducible repeat (first | apply Kd.R_alloc | apply Kd.R_drewN | apply Kd.R_drew)); exact HO279.out⟩, ⟨by repeat (first | (with_reducible first | exact HI0.out | apply IsS124.alloc | apply IsS124.drewN | apply IsS124.drew | apply IsS124.set_0) | exact HI0.out)⟩, ⟨by repeat (first | (with_reducible first | exact HK.out | apply KeepBut.set_ | apply keep_drewN | apply keep_drew | apply keep_alloc) | exact HK.out)⟩, ⟨by repeat (first | (with_reducible first | exact HB.out | apply below_alloc | apply pw_below_drewN | apply below_drew1 | refine below_set ?_ (IsS124.ge HI0.out)) | exact HB.out)⟩⟩
        · rw [if_neg c11] at H
          exact absurd H (by simp)
      · rw [if_neg c7] at H
        have c7b0 : decide (0 < x7_1) = false := decide_eq_false c7
        clear c7
        simp only [Option.some.injEq, Prod.mk.injEq] at H
        obtain ⟨rfl, rfl⟩ := H
        go_wp2
        go_ret
        exact ⟨_, by first | rfl | (simp [errW_none, errW_some] <;> rfl) | (simp [*, errW_none, errW_some] <;> rfl), by (with_reducible repeat (first | apply Kd.R_alloc | apply Kd.R_drewN | apply Kd.R_drew)); exact HO_5.out, by repeat (first | (with_reducible first | exact HI0.out | apply IsS124.alloc | apply IsS124.drewN | apply IsS124.drew | apply IsS124.set_0) | exact HI0.out), by repeat (first | (with_reducible first | exact HB.out | apply below_alloc | apply pw_below_drewN | apply below_drew1 | refine below_set ?_ (IsS124.ge HI0.out)) | exact HB.out), by repeat (first | (with_reducible first | exact HK.out | apply KeepBut.set_ | apply keep_drewN | apply keep_drew | apply keep_alloc) | exact HK.out)⟩
def swarfkit_Round.f (a0 : Int) (a1 : Int) : Option (Int) := if a1 < 2 then (some 0) else (if a1 = 0 then (none) else (some (Int.tmod (wrap64 ((Int.tmod a0 a1) + a1)) a1)))
set_option maxHeartbeats 8000000 in
set_option maxRecDepth 100000 in
theorem swarfkit_Round.calls (a0 : Int) (a1 : Int) (r : Int) (w : World) (h : swarfkit_Round.f a0 a1 = some r) :
    Calls Try.prog 19 #[.int .i64 a0, .int .i64 a1] w fun e w' => e = .returned (.int .i64 r) ∧ Drawn0 w w' := by
  have H : (if a1 < 2 then (some 0) else (if a1 = 0 then (none) else (some (Int.tmod (wrap64 ((Int.tmod a0 a1) + a1)) a1)))) = some r := h
  clear h
  by_cases c3 : a1 < 2
  · rw [if_pos c3] at H
    have c3b0 : decide (a1 < 2) = true := decide_eq_true c3
    clear c3
    obtain rfl := Option.some.inj H
    go_enter Try.func19, Try.ntmps19
    go_wp2
    go_ret
    exact ⟨by first | rfl | (simp; done) | (simp [*]; done), by repeat (first | exact Drawn0.refl _ | apply Drawn0.step)⟩
  · rw [if_neg c3] at H
    have c3b0 : decide (a1 < 2) = false := decide_eq_false c3
    clear c3
    by_cases c4 : a1 = 0
    · rw [if_pos c4] at H
      exact absurd H (by simp)
    · rw [if_neg c4] at H
      have c4b0 : (a1 == 0) = false := beq_eq_false_iff_ne.mpr c4
      have c4b1 : (a1 != 0) = true := bne_iff_ne.mpr c4
      obtain rfl := Option.some.inj H
      go_enter Try.func19, Try.ntmps19
      go_wp2
      go_ret
      exact ⟨by first | rfl | (simp; done) | (simp [*]; done), by repeat (first | exact Drawn0.refl _ | apply Drawn0.step)⟩
def swarfkit_Feed_Range.f (s0_0 : Int) (a1 : Int) (a2 : Int) : Option (Int × Int × Int) := (swarfkit_Feed_Between.f s0_0 a1 a2).bind fun bt283 => ((swarfkit_Feed_Below.f bt283.2 4).bind fun bt285 => ((swarfkit_Feed_Between.f bt285.2 bt283.1 a2).bind fun bt287 => ((swarfkit_Feed_Either.f bt287.2 (([bt283.1, mn a2 (wrap64 (bt283.1 + bt285.1)), bt287.1] : List Int))).bind fun bt292 => (some (bt283.1, bt292.1, bt292.2)))))
set_option maxHeartbeats 8000000 in
set_option maxRecDepth 100000 in
theorem swarfkit_Feed_Range.calls (g : Nat) (s0_0 : Int) (a1 : Int) (a2 : Int) (r1 : Int) (r2 : Int) (r3 : Int) (w0 w : World) (hI : IsS124 w0 w g s0_0) (hB : Below w0.heap.size w0 w) (h : swarfkit_Feed_Range.f s0_0 a1 a2 = some (r1, r2, r3)) :
    Calls Try.prog 21 #[.pointer (some ⟨g, 0, none⟩), .int .i64 a1, .int .i64 a2] w fun e w' => e = .returned (.agg #[.int .i64 r1, .int .i64 r2]) ∧ IsS124 w0 w' g r3 ∧ Below w0.heap.size w0 w' ∧ KeepBut w w' g none := by
  have hu24 := Try.underlying24
  have HI0 := Aside0.mk hI
  have HK := Aside0.mk (KeepBut.refl w g none)
  have HL := Aside0.mk hB.size
  clear hI
  have HW0 := Aside0.mk hB.size
  have HB := Aside0.mk hB
  clear hB
  have H : ((swarfkit_Feed_Between.f s0_0 a1 a2).bind fun bt283 => ((swarfkit_Feed_Below.f bt283.2 4).bind fun bt285 => ((swarfkit_Feed_Between.f bt285.2 bt283.1 a2).bind fun bt287 => ((swarfkit_Feed_Either.f bt287.2 (([bt283.1, mn a2 (wrap64 (bt283.1 + bt285.1)), bt287.1] : List Int))).bind fun bt292 => (some (bt283.1, bt292.1, bt292.2)))))) = some (r1, r2, r3) := h
  clear h
  replace H := Option.bind_eq_some_iff.mp H
  obtain ⟨⟨t283, t284⟩, A40, H⟩ := H
  replace H : ((swarfkit_Feed_Below.f t284 4).bind fun bt285 => ((swarfkit_Feed_Between.f bt285.2 t283 a2).bind fun bt287 => ((swarfkit_Feed_Either.f bt287.2 (([t283, mn a2 (wrap64 (t283 + bt285.1)), bt287.1] : List Int))).bind fun bt292 => (some (t283, bt292.1, bt292.2))))) = some (r1, r2, r3) := H
  have A4 := Aside0.mk A40
  clear A40
  replace H := Option.bind_eq_some_iff.mp H
  obtain ⟨⟨t285, t286⟩, A50, H⟩ := H
  replace H : ((swarfkit_Feed_Between.f t286 t283 a2).bind fun bt287 => ((swarfkit_Feed_Either.f bt287.2 (([t283, mn a2 (wrap64 (t283 + t285)), bt287.1] : List Int))).bind fun bt292 => (some (t283, bt292.1, bt292.2)))) = some (r1, r2, r3) := H
  have A5 := Aside0.mk A50
  clear A50
  obtain ⟨ji6, hji6⟩ : ∃ j_ : Int, (mn a2 (wrap64 (t283 + t285))) = j_ := ⟨_, rfl⟩
  replace H : ((swarfkit_Feed_Between.f t286 t283 a2).bind fun bt287 => ((swarfkit_Feed_Either.f bt287.2 (([t283, ji6, bt287.1] : List Int))).bind fun bt292 => (some (t283, bt292.1, bt292.2)))) = some (r1, r2, r3) := by first | (rw [hji6] at H; exact H) | (simp only [hji6] at H ⊢; exact H)
  (try rw [hji6] at A4)
  (try rw [hji6] at A5)
  have hji6_ : (if (wrap64 (t283 + t285)) < a2 then (wrap64 (t283 + t285)) else a2) = ji6 := hji6
  replace H := Option.bind_eq_some_iff.mp H
  obtain ⟨⟨t287, t288⟩, A70, H⟩ := H
  replace H : ((swarfkit_Feed_Either.f t288 (([t283, ji6, t287] : List Int))).bind fun bt292 => (some (t283, bt292.1, bt292.2))) = some (r1, r2, r3) := H
  have A7 := Aside0.mk A70
  clear A70
  obtain ⟨y289, hy289⟩ : ∃ y_ : List Int, y_ = (([t283, ji6, t287] : List Int)) := ⟨_, rfl⟩
  replace H : ((swarfkit_Feed_Either.f t288 y289).bind fun bt292 => (some (t283, bt292.1, bt292.2))) = some (r1, r2, r3) := by first | (rw [hy289]; with_reducible exact H) | (have H2_ := (Option.bind_some _ _).symm.trans H; rw [hy289]; with_reducible exact H2_) | (have H2_ := (Option.bind_some _ _).symm.trans H; with_reducible exact H2_) | with_reducible exact H | (rw [hy289]; exact H) | exact H
  have Ny289 := Aside0.mk hy289
  clear hy289
  replace H := Option.bind_eq_some_iff.mp H
  obtain ⟨⟨t292, t293⟩, A80, H⟩ := H
  replace H : (some (t283, t292, t293)) = some (r1, r2, r3) := H
  have A8 := Aside0.mk A80
  clear A80
  simp only [Option.some.injEq, Prod.mk.injEq] at H
  obtain ⟨rfl, rfl, rfl⟩ := H
  go_enter Try.func21, Try.ntmps21
  go_wp2_with (first | ((with_reducible refine gate_dst (N := 6) rfl ?_); refine box_event ?hg (N := 6) ?hd (cs := #[.int .i64 0, .int .i64 0]) (t := 24) ?hr ?_; (case hd => rfl); (case hg => rfl); (case hr => first | (go_simp; done) | (go_simp; rfl)); intro gb282 hg w9 hbox hb; have n0_ := Aside0.mk (IsS124.below (by repeat (first | (with_reducible first | exact HI0.out | apply IsS124.alloc | apply IsS124.drewN | apply IsS124.drew | apply IsS124.set_0) | exact HI0.out)) hb); have n1_ := Aside0.mk (KeepBut.trans (by repeat (first | (with_reducible first | exact HK.out | apply KeepBut.set_ | apply keep_drewN | apply keep_drew | apply keep_alloc) | exact HK.out)) (KeepBut.of_below hb g none) (.inl rfl)); have n2_ := Aside0.mk (below_step (by repeat (first | (with_reducible first | exact HB.out | apply below_alloc | apply pw_below_drewN | apply below_drew1 | refine below_set ?_ (IsS124.ge HI0.out)) | exact HB.out)) hb); have n3_ := Aside0.mk (hbox); have n4_ := Aside0.mk ((by rw [hg]; exact (keep_size (w := w) (g := g) (row := none) (by repeat (first | (with_reducible first | exact HK.out | apply KeepBut.set_ | apply keep_drewN | apply keep_drew | apply keep_alloc) | exact HK.out))) : w.heap.size ≤ gb282)); have n5_ := Aside0.mk ((Nat.le_trans HW0.out (by rw [hg]; exact (keep_size (w := w) (g := g) (row := none) (by repeat (first | (with_reducible first | exact HK.out | apply KeepBut.set_ | apply keep_drewN | apply keep_drew | apply keep_alloc) | exact HK.out))) : w.heap.size ≤ gb282) : w0.heap.size ≤ gb282)); have n6_ := Aside0.mk ((by rw [hg]; exact Nat.ne_of_lt (IsS124.lt (show IsS124 w0 _ g s0_0 from by repeat (first | (with_reducible first | exact HI0.out | apply IsS124.alloc | apply IsS124.drewN | apply IsS124.drew | apply IsS124.set_0) | exact HI0.out))) : g ≠ gb282)); have n7_ := Aside0.mk ((by rw [hg]; exact Nat.ne_of_gt (IsS124.lt (show IsS124 w0 _ g s0_0 from by repeat (first | (with_reducible first | exact HI0.out | apply IsS124.alloc | apply IsS124.drewN | apply IsS124.drew | apply IsS124.set_0) | exact HI0.out))) : gb282 ≠ g)); clear HI0; clear HK; clear HB; have HI0 := n0_; have HK := n1_; have HB := n2_; have BK282 := n3_; have GW282 := n4_; have GE282 := n5_; have NB0_282 := n6_; have NB282_0 := n7_; clear n0_ n1_ n2_ n3_ n4_ n5_ n6_ n7_; clear hb hbox hg) | ((with_reducible refine gate_callee (f := 25) rfl ?_); refine goesL_ (some 12) rfl rfl Try.func25 (by kernel_rfl) rfl #[.pointer (some ⟨g, 0, none⟩), .int .i64 a1, .int .i64 a2] rfl (by (try simp only [List.map_toArray, List.map_cons, List.map_nil]); first | done | rfl | (simp only [List.length_drop, List.length_take]; rfl)) ?_; (with_reducible refine (swarfkit_Feed_Between.calls g s0_0 a1 a2 t283 t284 w0 _ ?side1 ?side2 A4.out).mono ?_); (case side1 => repeat (first | (with_reducible first | exact HI0.out | apply IsS124.alloc | apply IsS124.drewN | apply IsS124.drew | apply IsS124.set_0 | refine IsS124.far ?_ NB0_282.out _) | exact HI0.out)); (case side2 => repeat (first | (with_reducible first | exact HB.out | apply below_alloc | apply pw_below_drewN | apply below_drew1 | refine below_set ?_ (IsS124.ge HI0.out) | refine below_set ?_ GE282.out) | exact HB.out)); rintro e w10 ⟨rfl, hi, hb, hk⟩; refine ⟨_, rfl, ?_⟩; have n0_ := Aside0.mk (KeepBut.blk hk (g' := gb282) (o := .cells #[.int .i64 0, .int .i64 0] 24 (0, 0)) (by (with_reducible repeat (first | refine blk_drewN ?_ _ | refine blk_drew ?_ | refine blk_alloc ?_ _)); exact BK282.out) NB282_0.out (by simp)); have n1_ := Aside0.mk (KeepBut.trans (by repeat (first | (with_reducible first | exact HK.out | apply KeepBut.set_ | apply keep_drewN | apply keep_drew | apply keep_alloc | refine keep_far ?_ GW282.out _) | exact HK.out)) hk (.inl rfl)); have n2_ := Aside0.mk (hb); have n3_ := Aside0.mk (hi); clear BK282; clear HK; clear HB; clear HI0; have BK282 := n0_; have HK := n1_; have HB := n2_; have HI0 := n3_; clear n0_ n1_ n2_ n3_; (try clear hb); (try clear hb2); (try clear hk); (try clear hi)) | ((with_reducible refine gate_callee (f := 20) rfl ?_); refine goesL_ (some 18) rfl rfl Try.func20 (by kernel_rfl) rfl #[.pointer (some ⟨g, 0, none⟩), .int .i64 4] rfl (by (try simp only [List.map_toArray, List.map_cons, List.map_nil]); first | done | rfl | (simp only [List.length_drop, List.length_take]; rfl)) ?_; (with_reducible refine (swarfkit_Feed_Below.calls g t284 4 t285 t286 w0 _ ?side1 ?side2 A5.out).mono ?_); (case side1 => repeat (first | (with_reducible first | exact HI0.out | apply IsS124.alloc | apply IsS124.drewN | apply IsS124.drew | apply IsS124.set_0 | refine IsS124.far ?_ NB0_282.out _) | exact HI0.out)); (case side2 => repeat (first | (with_reducible first | exact HB.out | apply below_alloc | apply pw_below_drewN | apply below_drew1 | refine below_set ?_ (IsS124.ge HI0.out) | refine below_set ?_ GE282.out) | exact HB.out)); rintro e w11 ⟨rfl, hi, hb, hk⟩; refine ⟨_, rfl, ?_⟩; have n0_ := Aside0.mk (KeepBut.blk hk (g' := gb282) (o := .cells #[.int .i64 0, .int .i64 0] 24 (0, 0)) (by (with_reducible repeat (first | refine blk_drewN ?_ _ | refine blk_drew ?_ | refine blk_alloc ?_ _)); exact BK282.out) NB282_0.out (by simp)); have n1_ := Aside0.mk (KeepBut.trans (by repeat (first | (with_reducible first | exact HK.out | apply KeepBut.set_ | apply keep_drewN | apply keep_drew | apply keep_alloc | refine keep_far ?_ GW282.out _) | exact HK.out)) hk (.inl rfl)); have n2_ := Aside0.mk (hb); have n3_ := Aside0.mk (hi); clear BK282; clear HK; clear HB; clear HI0; have BK282 := n0_; have HK := n1_; have HB := n2_; have HI0 := n3_; clear n0_ n1_ n2_ n3_; (try clear hb); (try clear hb2); (try clear hk); (try clear hi)) | ((with_reducible refine gate_callee (f := 25) rfl ?_); refine goesL_ (some 24) rfl rfl Try.func25 (by kernel_rfl) rfl #[.pointer (some ⟨g, 0, none⟩), .int .i64 t283, .int .i64 a2] rfl (by (try simp only [List.map_toArray, List.map_cons, List.map_nil]); first | done | rfl | (simp only [List.length_drop, List.length_take]; rfl)) ?_; (with_reducible refine (swarfkit_Feed_Between.calls g t286 t283 a2 t287 t288 w0 _ ?side1 ?side2 A7.out).mono ?_); (case side1 => repeat (first | (with_reducible first | exact HI0.out | apply IsS124.alloc | apply IsS124.drewN | apply IsS124.drew | apply IsS124.set_0 | refine IsS124.far ?_ NB0_282.out _) | exact HI0.out)); (case side2 => repeat (first | (with_reducible first | exact HB.out | apply below_alloc | apply pw_below_drewN | apply below_drew1 | refine below_set ?_ (IsS124.ge HI0.out) | refine below_set ?_ GE282.out) | exact HB.out)); rintro e w12 ⟨rfl, hi, hb, hk⟩; refine ⟨_, rfl, ?_⟩; have n0_ := Aside0.mk (KeepBut.blk hk (g' := gb282) (o := .cells #[.int .i64 0, .int .i64 0] 24 (0, 0)) (by (with_reducible repeat (first | refine blk_drewN ?_ _ | refine blk_drew ?_ | refine blk_alloc ?_ _)); exact BK282.out) NB282_0.out (by simp)); have n1_ := Aside0.mk (KeepBut.trans (by repeat (first | (with_reducible first | exact HK.out | apply KeepBut.set_ | apply keep_drewN | apply keep_drew | apply keep_alloc | refine keep_far ?_ GW282.out _) | exact HK.out)) hk (.inl rfl)); have n2_ := Aside0.mk (hb); have n3_ := Aside0.mk (hi); clear BK282; clear HK; clear HB; clear HI0; have BK282 := n0_; have HK := n1_; have HB := n2_; have HI0 := n3_; clear n0_ n1_ n2_ n3_; (try clear hb); (try clear hb2); (try clear hk); (try clear hi)) | ((with_reducible refine gate_dst (N := 25) rfl ?_); refine Kd.R_lit (Kd.int .i64) _ 3 ?hg (N := 25) ?hd (xs := ([t283, ji6, t287] : List Int)) (inner := [.int .i64 t283, .int .i64 ji6, .int .i64 t287]) (ok := fun _ => True) (okp := fun _ => True) ?hr ?hp (fun _ hk => hk) trivial (Below.refl _ _) (Nat.le_refl _) (by simp) ?_; (case hd => rfl); (case hg => rfl); (case hr => first | (go_simp; done) | (go_simp; rfl)); (case hp => exact (Reps.one (show Kd.M (Kd.int .i64) _ _ _ t283 [.int .i64 t283] from rfl) (Reps.one (show Kd.M (Kd.int .i64) _ _ _ ji6 [.int .i64 ji6] from rfl) (Reps.one (show Kd.M (Kd.int .i64) _ _ _ t287 [.int .i64 t287] from rfl) (Reps.none _ _))))); intro v290 w13 ho14 hb hg_ hnew_; clear hg_ hnew_; (first | rw [← Ny289.out] at ho14 | (simp only [Int.reduceToNat] at ho14; rw [← Ny289.out] at ho14)); have n0_ := Aside0.mk (Kd.R_lower ho14 (keep_size (w := w) (g := g) (row := none) (by repeat (first | (with_reducible first | exact HK.out | apply KeepBut.set_ | apply keep_drewN | apply keep_drew | apply keep_alloc | refine keep_far ?_ GW282.out _) | exact HK.out)))); have n1_ := Aside0.mk (IsS124.below (by repeat (first | (with_reducible first | exact HI0.out | apply IsS124.alloc | apply IsS124.drewN | apply IsS124.drew | apply IsS124.set_0 | refine IsS124.far ?_ NB0_282.out _) | exact HI0.out)) hb); have n2_ := Aside0.mk (blk_below (g := gb282) (o := .cells #[.int .i64 0, .int .i64 0] 24 (0, 0)) (by (with_reducible repeat (first | refine blk_drewN ?_ _ | refine blk_drew ?_ | refine blk_alloc ?_ _)); exact BK282.out) hb); have n3_ := Aside0.mk (KeepBut.trans (by repeat (first | (with_reducible first | exact HK.out | apply KeepBut.set_ | apply keep_drewN | apply keep_drew | apply keep_alloc | refine keep_far ?_ GW282.out _) | exact HK.out)) (KeepBut.of_below hb g none) (.inl rfl)); have n4_ := Aside0.mk (below_step (by repeat (first | (with_reducible first | exact HB.out | apply below_alloc | apply pw_below_drewN | apply below_drew1 | refine below_set ?_ (IsS124.ge HI0.out) | refine below_set ?_ GE282.out) | exact HB.out)) hb); clear HI0; clear BK282; clear HK; clear HB; have HO291 := n0_; have HI0 := n1_; have BK282 := n2_; have HK := n3_; have HB := n4_; clear n0_ n1_ n2_ n3_ n4_; clear hb ho14; obtain ⟨Ao15, co15, eo15⟩ := Kd.R_slice HO291.out; subst eo15) | ((with_reducible refine gate_callee (f := 22) rfl ?_); refine goesL_ (some 26) rfl rfl Try.func22 (by kernel_rfl) rfl #[.pointer (some ⟨g, 0, none⟩), .slice Ao15 y289.length co15] rfl (by (try simp only [List.map_toArray, List.map_cons, List.map_nil]); first | done | rfl | (simp only [List.length_drop, List.length_take]; rfl)) ?_; (with_reducible refine (swarfkit_Feed_Either.calls g t288 _ _ y289 t292 t293 w0 _ ?side1 ?side2 ?side3 ?side4 ?side5 A8.out).mono ?_); (case side1 => repeat (first | (with_reducible first | exact HI0.out | apply IsS124.alloc | apply IsS124.drewN | apply IsS124.drew | apply IsS124.set_0 | refine IsS124.far ?_ NB0_282.out _) | exact HI0.out)); (case side2 => repeat (first | (with_reducible first | exact HB.out | apply below_alloc | apply pw_below_drewN | apply below_drew1 | refine below_set ?_ (IsS124.ge HI0.out) | refine below_set ?_ GE282.out) | exact HB.out)); (case side3 => repeat (first | exact (Kd.R_reads' HO291.out).2.2 | (with_reducible refine Kd.C_alloc ?_ _) | (with_reducible refine Kd.C_drewN ?_ _) | (with_reducible refine Kd.C_drew ?_))); (case side4 => exact (Kd.R_reads' HO291.out).2.1); (case side5 => exact far_slice (IsS124.own_ne HI0.out HO291.out (by decide))); rintro e w16 ⟨rfl, hi, hb, hk⟩; refine ⟨_, rfl, ?_⟩; have n0_ := Aside0.mk (KeepBut.blk hk (g' := gb282) (o := .cells #[.int .i64 0, .int .i64 0] 24 (0, 0)) (by (with_reducible repeat (first | refine blk_drewN ?_ _ | refine blk_drew ?_ | refine blk_alloc ?_ _)); exact BK282.out) NB282_0.out (by simp)); have n1_ := Aside0.mk (Kd.R_mono (Kd.R_keep (IsS124.apart (show IsS124 w0 _ g t288 from by repeat (first | (with_reducible first | exact HI0.out | apply IsS124.alloc | apply IsS124.drewN | apply IsS124.drew | apply IsS124.set_0 | refine IsS124.far ?_ NB0_282.out _) | exact HI0.out)) (by (with_reducible repeat (first | apply Kd.R_alloc | apply Kd.R_drewN | apply Kd.R_drew)); exact HO291.out) (by decide)) hk (fun _ h => h.2)) (fun _ h => h.1)); have n2_ := Aside0.mk (KeepBut.trans (by repeat (first | (with_reducible first | exact HK.out | apply KeepBut.set_ | apply keep_drewN | apply keep_drew | apply keep_alloc | refine keep_far ?_ GW282.out _) | exact HK.out)) hk (.inl rfl)); have n3_ := Aside0.mk (hb); have n4_ := Aside0.mk (hi); clear BK282; clear HO291; clear HK; clear HB; clear HI0; have BK282 := n0_; have HO291 := n1_; have HK := n2_; have HB := n3_; have HI0 := n4_; clear n0_ n1_ n2_ n3_ n4_; (try clear hb); (try clear hb2); (try clear hk); (try clear hi); have hnb17 := NB282_0.out; have hnc17 := NB0_282.out; have hcz18_0 : w16.cell? ⟨gb282, 0, none⟩ = some (.int .i64 0) := (blk_cell BK282.out 0).trans rfl; have hcz18_1 : w16.cell? ⟨gb282, 1, none⟩ = some (.int .i64 0) := (blk_cell BK282.out 1).trans rfl; have hfz18_0 := blk_frozen BK282.out 0; have hfz18_1 := blk_frozen BK282.out 1))
  refine bodyPost_ret (results_cell_row rfl _ _ gb282 24 #[.int .i64 t283, .int .i64 t292] (0, 0) _ rfl (by (with_reducible repeat (first | refine blk_drewN ?_ _ | refine blk_drew ?_ | refine blk_alloc ?_ _)); refine blk_put (cs := #[.int .i64 t283, .int .i64 0]) ?_ 1 _ rfl; (with_reducible repeat (first | refine blk_drewN ?_ _ | refine blk_drew ?_ | refine blk_alloc ?_ _)); refine blk_put (cs := #[.int .i64 0, .int .i64 0]) ?_ 0 _ rfl; (with_reducible repeat (first | refine blk_drewN ?_ _ | refine blk_drew ?_ | refine blk_alloc ?_ _)); exact BK282.out) Try.underlying24 rfl (by kernel_rfl)) rfl ?_
  exact ⟨by first | rfl | (simp [errW_none, errW_some] <;> rfl) | (simp only [← hji6]; first | rfl | (simp [errW_none, errW_some] <;> rfl)) | (simp [*, errW_none, errW_some] <;> rfl), by repeat (first | (with_reducible first | exact HI0.out | apply IsS124.alloc | apply IsS124.drewN | apply IsS124.drew | apply IsS124.set_0 | refine IsS124.far ?_ NB0_282.out _) | exact HI0.out), by repeat (first | (with_reducible first | exact HB.out | apply below_alloc | apply pw_below_drewN | apply below_drew1 | refine below_set ?_ (IsS124.ge HI0.out) | refine below_set ?_ GE282.out) | exact HB.out), by repeat (first | (with_reducible first | exact HK.out | apply KeepBut.set_ | apply keep_drewN | apply keep_drew | apply keep_alloc | refine keep_far ?_ GW282.out _) | exact HK.out)⟩
end Go.Proofs.Ytkdlbocjgbmbdaa.Print

namespace Go.Proofs.Ytkdlbocjgbmbdaa.Print
open Go.RowKit Go.Proofs.YtkdlbocjgbmbdaaW.PrintWords Go.Proofs.YtkdlbocjgbmbdaaW.PrintLast Go.Proofs.YtkdlbocjgbmbdaaW.PrintMore
attribute [local go_sem] max2_int min2_int max_two min_two max_three min_three max_four min_four   -- for this text's walks alone
set_option linter.unusedVariables false
set_option linter.unusedSimpArgs false
def swarfkit_Feed_In.f (s0_0 : Int) (a1_0 : Int) (a1_1 : Int) : Option (Int × Int) := (swarfkit_Feed_Between.f s0_0 a1_0 a1_1).bind fun bt325 => ((swarfkit_Feed_Between.f bt325.2 a1_0 a1_1).bind fun bt327 => ((swarfkit_Feed_Either.f bt327.2 (([a1_0, a1_1, bt325.1, bt327.1] : List Int))).bind fun bt332 => (some (bt332.1, bt332.2))))
def swarfkit_Feed_In.T1 : Bool × List (List Nat × List Nat) := (true, [([], []), ([], []), ([1], [1]), ([], []), ([3], [3]), ([], []), ([], []), ([6], [6]), ([], []), ([8], [8]), ([5, 7, 9], [5, 7, 9]), ([], []), ([], []), ([12], [12]), ([], []), ([14], [14]), ([11, 13, 15, 10], [11, 13, 15]), ([2, 4, 10, 16], [2, 4, 10, 16]), ([0, 17, 16], [0, 17]), ([18, 18, 0, 1, 2, 3, 4, 5, 6, 7, 8, 9, 10, 11, 12, 13, 14, 15, 16, 17, 18], [18])])
def swarfkit_Feed_In.B1 : List Nat := [0, 0, 2, 0, 8, 0, 0, 64, 0, 256, 992, 0, 0, 4096, 0, 16384, 65504, 131070, 262143, 524287]
theorem swarfkit_Feed_In.tab1 : rtab .any (opsOf Try.f26 1) = swarfkit_Feed_In.T1 := by kernel_rfl
theorem swarfkit_Feed_In.bits1 : waitsOk swarfkit_Feed_In.T1.2 swarfkit_Feed_In.B1 = true := by kernel_rfl
set_option maxHeartbeats 8000000 in
set_option maxRecDepth 100000 in
theorem swarfkit_Feed_In.calls (g : Nat) (s0_0 : Int) (a1_0 : Int) (a1_1 : Int) (r1 : Int) (r2 : Int) (w0 w : World) (hI : IsS124 w0 w g s0_0) (hB : Below w0.heap.size w0 w) (h : swarfkit_Feed_In.f s0_0 a1_0 a1_1 = some (r1, r2)) :
    Calls Try.prog 26 #[.pointer (some ⟨g, 0, none⟩), .agg #[.int .i64 a1_0, .int .i64 a1_1]] w fun e w' => e = .returned (.int .i64 r1) ∧ IsS124 w0 w' g r2 ∧ Below w0.heap.size w0 w' ∧ KeepBut w w' g none := by
  have hu24 := Try.underlying24
  have HI0 := Aside0.mk hI
  have HK := Aside0.mk (KeepBut.refl w g none)
  have HL := Aside0.mk hB.size
  clear hI
  have HW0 := Aside0.mk hB.size
  have HB := Aside0.mk hB
  clear hB
  have H : ((swarfkit_Feed_Between.f s0_0 a1_0 a1_1).bind fun bt325 => ((swarfkit_Feed_Between.f bt325.2 a1_0 a1_1).bind fun bt327 => ((swarfkit_Feed_Either.f bt327.2 (([a1_0, a1_1, bt325.1, bt327.1] : List Int))).bind fun bt332 => (some (bt332.1, bt332.2))))) = some (r1, r2) := h
  clear h
  replace H := Option.bind_eq_some_iff.mp H
  obtain ⟨⟨t325, t326⟩, A30, H⟩ := H
  replace H : ((swarfkit_Feed_Between.f t326 a1_0 a1_1).bind fun bt327 => ((swarfkit_Feed_Either.f bt327.2 (([a1_0, a1_1, t325, bt327.1] : List Int))).bind fun bt332 => (some (bt332.1, bt332.2)))) = some (r1, r2) := H
  have A3 := Aside0.mk A30
  clear A30
  replace H := Option.bind_eq_some_iff.mp H
  obtain ⟨⟨t327, t328⟩, A40, H⟩ := H
  replace H : ((swarfkit_Feed_Either.f t328 (([a1_0, a1_1, t325, t327] : List Int))).bind fun bt332 => (some (bt332.1, bt332.2))) = some (r1, r2) := H
  have A4 := Aside0.mk A40
  clear A40
  obtain ⟨y329, hy329⟩ : ∃ y_ : List Int, y_ = (([a1_0, a1_1, t325, t327] : List Int)) := ⟨_, rfl⟩
  replace H : ((swarfkit_Feed_Either.f t328 y329).bind fun bt332 => (some (bt332.1, bt332.2))) = some (r1, r2) := by first | (rw [hy329]; with_reducible exact H) | (have H2_ := (Option.bind_some _ _).symm.trans H; rw [hy329]; with_reducible exact H2_) | (have H2_ := (Option.bind_some _ _).symm.trans H; with_reducible exact H2_) | with_reducible exact H | (rw [hy329]; exact H) | exact H
  have Ny329 := Aside0.mk hy329
  clear hy329
  replace H := Option.bind_eq_some_iff.mp H
  obtain ⟨⟨t332, t333⟩, A50, H⟩ := H
  replace H : (some (t332, t333)) = some (r1, r2) := H
  have A5 := Aside0.mk A50
  clear A50
  simp only [Option.some.injEq, Prod.mk.injEq] at H
  obtain ⟨rfl, rfl⟩ := H
  go_enter Try.func26, Try.ntmps26
  try go_wp2_with (first | ((with_reducible refine gate_dst (N := 3) rfl ?_); refine box_event ?hg (N := 3) ?hd (cs := #[.int .i64 a1_0, .int .i64 a1_1]) (t := 24) ?hr ?_; (case hd => rfl); (case hg => rfl); (case hr => first | (go_simp; done) | (go_simp; rfl)); intro gb324 hg w6 hbox hb; have n0_ := Aside0.mk (IsS124.below (by repeat (first | (with_reducible first | exact HI0.out | apply IsS124.alloc | apply IsS124.drewN | apply IsS124.drew | apply IsS124.set_0) | exact HI0.out)) hb); have n1_ := Aside0.mk (KeepBut.trans (by repeat (first | (with_reducible first | exact HK.out | apply KeepBut.set_ | apply keep_drewN | apply keep_drew | apply keep_alloc) | exact HK.out)) (KeepBut.of_below hb g none) (.inl rfl)); have n2_ := Aside0.mk (below_step (by repeat (first | (with_reducible first | exact HB.out | apply below_alloc | apply pw_below_drewN | apply below_drew1 | refine below_set ?_ (IsS124.ge HI0.out)) | exact HB.out)) hb); have n3_ := Aside0.mk (hbox); have n4_ := Aside0.mk ((by rw [hg]; exact (keep_size (w := w) (g := g) (row := none) (by repeat (first | (with_reducible first | exact HK.out | apply KeepBut.set_ | apply keep_drewN | apply keep_drew | apply keep_alloc) | exact HK.out))) : w.heap.size ≤ gb324)); have n5_ := Aside0.mk ((Nat.le_trans HW0.out (by rw [hg]; exact (keep_size (w := w) (g := g) (row := none) (by repeat (first | (with_reducible first | exact HK.out | apply KeepBut.set_ | apply keep_drewN | apply keep_drew | apply keep_alloc) | exact HK.out))) : w.heap.size ≤ gb324) : w0.heap.size ≤ gb324)); have n6_ := Aside0.mk ((by rw [hg]; exact Nat.ne_of_lt (IsS124.lt (show IsS124 w0 _ g s0_0 from by repeat (first | (with_reducible first | exact HI0.out | apply IsS124.alloc | apply IsS124.drewN | apply IsS124.drew | apply IsS124.set_0) | exact HI0.out))) : g ≠ gb324)); have n7_ := Aside0.mk ((by rw [hg]; exact Nat.ne_of_gt (IsS124.lt (show IsS124 w0 _ g s0_0 from by repeat (first | (with_reducible first | exact HI0.out | apply IsS124.alloc | apply IsS124.drewN | apply IsS124.drew | apply IsS124.set_0) | exact HI0.out))) : gb324 ≠ g)); clear HI0; clear HK; clear HB; have HI0 := n0_; have HK := n1_; have HB := n2_; have BK324 := n3_; have GW324 := n4_; have GE324 := n5_; have NB0_324 := n6_; have NB324_0 := n7_; clear n0_ n1_ n2_ n3_ n4_ n5_ n6_ n7_; clear hb hbox hg))
  have n0_ := Aside0.mk (blk_drew BK324.out)
  have n1_ := Aside0.mk (IsS124.drew HI0.out)
  have n2_ := Aside0.mk (keep_drew HK.out)
  have n3_ := Aside0.mk (below_drew1 HB.out)
  clear BK324
  clear HI0
  clear HK
  clear HB
  have BK324 := n0_
  have HI0 := n1_
  have HK := n2_
  have HB := n3_
  clear n0_ n1_ n2_ n3_
  refine start_ (n := 20) (S := fun w' => w'.cell? ⟨gb324, 0, none⟩ = some (.int .i64 a1_0) ∧ w'.cell? ⟨gb324, 1, none⟩ = some (.int .i64 a1_1)) (ds := []) #[false, false, false, false, false, false, false, false, false, false, false, false, false, false, false, false, false, false, false, false] (by kernel_rfl) rfl rfl ⟨(blk_cell BK324.out 0).trans rfl, (blk_cell BK324.out 1).trans rfl⟩ (fun hHeld => ?_); refine with_tabW swarfkit_Feed_In.tab1 swarfkit_Feed_In.bits1 (fun HT_ HW_ => ?_)
  generalize w6.drew = w7 at BK324 HI0 HK HB hHeld ⊢
  refine pure_ (i := 0) (N := some 5) (v := ?_) (a' := ?_) #[true, false, false, false, false, false, false, false, false, false, false, false, false, false, false, false, false, false, false, false] rfl rfl (any_of HT_.out (by kernel_rfl)) (fun _ _ _ h => h) (Or.inl ⟨by rfl, ?_⟩) ?_ ?_
  rotate_left
  · intro w'
    go_simp
    with_reducible rfl
  rotate_left
  · simp only [Act.put, List.setIfInBounds_toArray, List.set_cons_zero, List.set_cons_succ, i64_w, i32_w]
    rfl
  refine pure_ (i := 1) (N := some 6) (v := ?_) (a' := ?_) #[true, true, false, false, false, false, false, false, false, false, false, false, false, false, false, false, false, false, false, false] rfl rfl (any_of HT_.out (by kernel_rfl)) (fun _ _ _ h => h) (Or.inl ⟨by rfl, ?_⟩) ?_ ?_
  rotate_left
  · intro w'
    go_simp
    with_reducible rfl
  rotate_left
  · simp only [Act.put, List.setIfInBounds_toArray, List.set_cons_zero, List.set_cons_succ, i64_w, i32_w]
    rfl
  refine pure_ (i := 3) (N := some 8) (v := ?_) (a' := ?_) #[true, true, false, true, false, false, false, false, false, false, false, false, false, false, false, false, false, false, false, false] rfl rfl (any_of HT_.out (by kernel_rfl)) (fun _ _ _ h => h) (Or.inl ⟨by rfl, ?_⟩) ?_ ?_
  rotate_left
  · intro w'
    go_simp
    with_reducible rfl
  rotate_left
  · simp only [Act.put, List.setIfInBounds_toArray, List.set_cons_zero, List.set_cons_succ, i64_w, i32_w]
    rfl
  refine pure_ (i := 5) (N := some 10) (v := ?_) (a' := ?_) #[true, true, false, true, false, true, false, false, false, false, false, false, false, false, false, false, false, false, false, false] rfl rfl (any_of HT_.out (by kernel_rfl)) (fun _ _ _ h => h) (Or.inl ⟨by rfl, ?_⟩) ?_ ?_
  rotate_left
  · intro w'
    go_simp
    with_reducible rfl
  rotate_left
  · simp only [Act.put, List.setIfInBounds_toArray, List.set_cons_zero, List.set_cons_succ, i64_w, i32_w]
    rfl
  refine pure_ (i := 6) (N := some 11) (v := ?_) (a' := ?_) #[true, true, false, true, false, true, true, false, false, false, false, false, false, false, false, false, false, false, false, false] rfl rfl (any_of HT_.out (by kernel_rfl)) (fun _ _ _ h => h) (Or.inl ⟨by rfl, ?_⟩) ?_ ?_
  rotate_left
  · intro w'
    go_simp
    with_reducible rfl
  rotate_left
  · simp only [Act.put, List.setIfInBounds_toArray, List.set_cons_zero, List.set_cons_succ, i64_w, i32_w]
    rfl
  refine pure_ (i := 8) (N := some 13) (v := ?_) (a' := ?_) #[true, true, false, true, false, true, true, false, true, false, false, false, false, false, false, false, false, false, false, false] rfl rfl (any_of HT_.out (by kernel_rfl)) (fun _ _ _ h => h) (Or.inl ⟨by rfl, ?_⟩) ?_ ?_
  rotate_left
  · intro w'
    go_simp
    with_reducible rfl
  rotate_left
  · simp only [Act.put, List.setIfInBounds_toArray, List.set_cons_zero, List.set_cons_succ, i64_w, i32_w]
    rfl
  refine pure_ (i := 11) (N := some 16) (v := ?_) (a' := ?_) #[true, true, false, true, false, true, true, false, true, false, false, true, false, false, false, false, false, false, false, false] rfl rfl (any_of HT_.out (by kernel_rfl)) (fun _ _ _ h => h) (Or.inl ⟨by rfl, ?_⟩) ?_ ?_
  rotate_left
  · intro w'
    go_simp
    with_reducible rfl
  rotate_left
  · simp only [Act.put, List.setIfInBounds_toArray, List.set_cons_zero, List.set_cons_succ, i64_w, i32_w]
    rfl
  refine pure_ (i := 12) (N := some 17) (v := ?_) (a' := ?_) #[true, true, false, true, false, true, true, false, true, false, false, true, true, false, false, false, false, false, false, false] rfl rfl (any_of HT_.out (by kernel_rfl)) (fun _ _ _ h => h) (Or.inl ⟨by rfl, ?_⟩) ?_ ?_
  rotate_left
  · intro w'
    go_simp
    with_reducible rfl
  rotate_left
  · simp only [Act.put, List.setIfInBounds_toArray, List.set_cons_zero, List.set_cons_succ, i64_w, i32_w]
    rfl
  refine pure_ (i := 14) (N := some 19) (v := ?_) (a' := ?_) #[true, true, false, true, false, true, true, false, true, false, false, true, true, false, true, false, false, false, false, false] rfl rfl (any_of HT_.out (by kernel_rfl)) (fun _ _ _ h => h) (Or.inl ⟨by rfl, ?_⟩) ?_ ?_
  rotate_left
  · intro w'
    go_simp
    with_reducible rfl
  rotate_left
  · simp only [Act.put, List.setIfInBounds_toArray, List.set_cons_zero, List.set_cons_succ, i64_w, i32_w]
    rfl
  refine take_ (i := 2) (N := some 7) (v := ?_) (a' := ?_) #[true, true, true, true, false, true, true, false, true, false, false, true, true, false, true, false, false, false, false, false] rfl rfl (take_ofW HT_.out HW_.out (by kernel_rfl)) (fun _ _ _ h => h) (Or.inl ⟨by rfl, ?_⟩) hHeld ?_ ?_
  rotate_left
  · rintro w' ⟨s0, s1⟩
    go_simp
    with_reducible rfl
  rotate_left
  · simp only [Act.put, List.setIfInBounds_toArray, List.set_cons_zero, List.set_cons_succ, i64_w, i32_w]
    rfl
  refine take_ (i := 4) (N := some 9) (v := ?_) (a' := ?_) #[true, true, true, true, true, true, true, false, true, false, false, true, true, false, true, false, false, false, false, false] rfl rfl (take_ofW HT_.out HW_.out (by kernel_rfl)) (fun _ _ _ h => h) (Or.inl ⟨by rfl, ?_⟩) hHeld ?_ ?_
  rotate_left
  · rintro w' ⟨s0, s1⟩
    go_simp
    with_reducible rfl
  rotate_left
  · simp only [Act.put, List.setIfInBounds_toArray, List.set_cons_zero, List.set_cons_succ, i64_w, i32_w]
    rfl
  refine take_ (i := 7) (N := some 12) (v := ?_) (a' := ?_) #[true, true, true, true, true, true, true, true, true, false, false, true, true, false, true, false, false, false, false, false] rfl rfl (take_ofW HT_.out HW_.out (by kernel_rfl)) (fun _ _ _ h => h) (Or.inl ⟨by rfl, ?_⟩) hHeld ?_ ?_
  rotate_left
  · rintro w' ⟨s0, s1⟩
    go_simp
    with_reducible rfl
  rotate_left
  · simp only [Act.put, List.setIfInBounds_toArray, List.set_cons_zero, List.set_cons_succ, i64_w, i32_w]
    rfl
  refine take_ (i := 9) (N := some 14) (v := ?_) (a' := ?_) #[true, true, true, true, true, true, true, true, true, true, false, true, true, false, true, false, false, false, false, false] rfl rfl (take_ofW HT_.out HW_.out (by kernel_rfl)) (fun _ _ _ h => h) (Or.inl ⟨by rfl, ?_⟩) hHeld ?_ ?_
  rotate_left
  · rintro w' ⟨s0, s1⟩
    go_simp
    with_reducible rfl
  rotate_left
  · simp only [Act.put, List.setIfInBounds_toArray, List.set_cons_zero, List.set_cons_succ, i64_w, i32_w]
    rfl
  refine take_ (i := 13) (N := some 18) (v := ?_) (a' := ?_) #[true, true, true, true, true, true, true, true, true, true, false, true, true, true, true, false, false, false, false, false] rfl rfl (take_ofW HT_.out HW_.out (by kernel_rfl)) (fun _ _ _ h => h) (Or.inl ⟨by rfl, ?_⟩) hHeld ?_ ?_
  rotate_left
  · rintro w' ⟨s0, s1⟩
    go_simp
    with_reducible rfl
  rotate_left
  · simp only [Act.put, List.setIfInBounds_toArray, List.set_cons_zero, List.set_cons_succ, i64_w, i32_w]
    rfl
  refine take_ (i := 15) (N := some 20) (v := ?_) (a' := ?_) #[true, true, true, true, true, true, true, true, true, true, false, true, true, true, true, true, false, false, false, false] rfl rfl (take_ofW HT_.out HW_.out (by kernel_rfl)) (fun _ _ _ h => h) (Or.inl ⟨by rfl, ?_⟩) hHeld ?_ ?_
  rotate_left
  · rintro w' ⟨s0, s1⟩
    go_simp
    with_reducible rfl
  rotate_left
  · simp only [Act.put, List.setIfInBounds_toArray, List.set_cons_zero, List.set_cons_succ, i64_w, i32_w]
    rfl
  refine one_ (i := 10) (N := some 15) #[true, true, true, true, true, true, true, true, true, true, true, true, true, true, true, true, false, false, false, false] rfl rfl (one_of HT_.out (by kernel_rfl)) (by decide) (fun K hK => ?_)
  refine goes_ Try.func25 (by kernel_rfl) rfl #[.pointer (some ⟨g, 0, none⟩), .int .i64 a1_0, .int .i64 a1_1] (by rfl) rfl rfl (by (try simp only [List.map_toArray, List.map_cons, List.map_nil]); first | done | rfl | (simp only [List.length_drop, List.length_take]; rfl)) ?_
  with_reducible refine (swarfkit_Feed_Between.calls g s0_0 a1_0 a1_1 t325 t326 w0 _ ?side1 ?side2 A3.out).mono ?_
  (case side1 => repeat (first | (with_reducible first | exact HI0.out | apply IsS124.alloc | apply IsS124.drewN | apply IsS124.drew | apply IsS124.set_0 | refine IsS124.far ?_ NB0_324.out _) | exact HI0.out))
  (case side2 => repeat (first | (with_reducible first | exact HB.out | apply below_alloc | apply pw_below_drewN | apply below_drew1 | refine below_set ?_ (IsS124.ge HI0.out) | refine below_set ?_ GE324.out) | exact HB.out))
  rintro e w8 ⟨rfl, hi, hb, hk⟩
  refine ⟨_, rfl, ?_⟩
  have n0_ := Aside0.mk (KeepBut.blk hk (g' := gb324) (o := .cells #[.int .i64 a1_0, .int .i64 a1_1] 24 (0, 0)) (by (with_reducible repeat (first | refine blk_drewN ?_ _ | refine blk_drew ?_ | refine blk_alloc ?_ _)); exact BK324.out) NB324_0.out (by simp))
  have n1_ := Aside0.mk (KeepBut.trans (by repeat (first | (with_reducible first | exact HK.out | apply KeepBut.set_ | apply keep_drewN | apply keep_drew | apply keep_alloc | refine keep_far ?_ GW324.out _) | exact HK.out)) hk (.inl rfl))
  have n2_ := Aside0.mk (hb)
  have n3_ := Aside0.mk (hi)
  clear BK324
  clear HK
  clear HB
  clear HI0
  have BK324 := n0_
  have HK := n1_
  have HB := n2_
  have HI0 := n3_
  clear n0_ n1_ n2_ n3_
  (try clear hb)
  (try clear hb2)
  (try clear hk)
  (try clear hi)
  refine hK.out _ _ ⟨(blk_cell BK324.out 0).trans rfl, (blk_cell BK324.out 1).trans rfl⟩ (fun hHeld => ?_)
  clear hK K
  refine norm_ (a' := ?_) ?_ ?_
  rotate_left
  · show Act.put _ (some 15) _ = _
    simp only [Act.put, List.setIfInBounds_toArray, List.set_cons_zero, List.set_cons_succ, i64_w, i32_w]
    rfl
  refine one_ (i := 16) (N := some 21) #[true, true, true, true, true, true, true, true, true, true, true, true, true, true, true, true, true, false, false, false] rfl rfl (one_of HT_.out (by kernel_rfl)) (by decide) (fun K hK => ?_)
  refine goes_ Try.func25 (by kernel_rfl) rfl #[.pointer (some ⟨g, 0, none⟩), .int .i64 a1_0, .int .i64 a1_1] (by rfl) rfl rfl (by (try simp only [List.map_toArray, List.map_cons, List.map_nil]); first | done | rfl | (simp only [List.length_drop, List.length_take]; rfl)) ?_
  with_reducible refine (swarfkit_Feed_Between.calls g t326 a1_0 a1_1 t327 t328 w0 _ ?side1 ?side2 A4.out).mono ?_
  (case side1 => repeat (first | (with_reducible first | exact HI0.out | apply IsS124.alloc | apply IsS124.drewN | apply IsS124.drew | apply IsS124.set_0 | refine IsS124.far ?_ NB0_324.out _) | exact HI0.out))
  (case side2 => repeat (first | (with_reducible first | exact HB.out | apply below_alloc | apply pw_below_drewN | apply below_drew1 | refine below_set ?_ (IsS124.ge HI0.out) | refine below_set ?_ GE324.out) | exact HB.out))
  rintro e w9 ⟨rfl, hi, hb, hk⟩
  refine ⟨_, rfl, ?_⟩
  have n0_ := Aside0.mk (KeepBut.blk hk (g' := gb324) (o := .cells #[.int .i64 a1_0, .int .i64 a1_1] 24 (0, 0)) (by (with_reducible repeat (first | refine blk_drewN ?_ _ | refine blk_drew ?_ | refine blk_alloc ?_ _)); exact BK324.out) NB324_0.out (by simp))
  have n1_ := Aside0.mk (KeepBut.trans (by repeat (first | (with_reducible first | exact HK.out | apply KeepBut.set_ | apply keep_drewN | apply keep_drew | apply keep_alloc | refine keep_far ?_ GW324.out _) | exact HK.out)) hk (.inl rfl))
  have n2_ := Aside0.mk (hb)
  have n3_ := Aside0.mk (hi)
  clear BK324
  clear HK
  clear HB
  clear HI0
  have BK324 := n0_
  have HK := n1_
  have HB := n2_
  have HI0 := n3_
  clear n0_ n1_ n2_ n3_
  (try clear hb)
  (try clear hb2)
  (try clear hk)
  (try clear hi)
  refine hK.out _ _ ⟨(blk_cell BK324.out 0).trans rfl, (blk_cell BK324.out 1).trans rfl⟩ (fun hHeld => ?_)
  clear hK K
  refine norm_ (a' := ?_) ?_ ?_
  rotate_left
  · show Act.put _ (some 21) _ = _
    simp only [Act.put, List.setIfInBounds_toArray, List.set_cons_zero, List.set_cons_succ, i64_w, i32_w]
    rfl
  refine one_ (i := 17) (N := some 22) #[true, true, true, true, true, true, true, true, true, true, true, true, true, true, true, true, true, true, false, false] rfl rfl (one_of HT_.out (by kernel_rfl)) (by decide) (fun K hK => ?_)
  refine Kd.R_lit_step (Kd.int .i64) _ 3 ?hg (N := 22) ?hd (xs := ([a1_0, a1_1, t325, t327] : List Int)) (inner := [.int .i64 a1_0, .int .i64 a1_1, .int .i64 t325, .int .i64 t327]) (ok := fun _ => True) (okp := fun _ => True) ?hr ?hp (fun _ hk => hk) trivial (Below.refl _ _) (Nat.le_refl _) (by simp) ?_; (case hd => rfl); (case hg => rfl); (case hr => first | (go_simp; done) | (go_simp; rfl)); (case hp => exact (Reps.one (show Kd.M (Kd.int .i64) _ _ _ a1_0 [.int .i64 a1_0] from rfl) (Reps.one (show Kd.M (Kd.int .i64) _ _ _ a1_1 [.int .i64 a1_1] from rfl) (Reps.one (show Kd.M (Kd.int .i64) _ _ _ t325 [.int .i64 t325] from rfl) (Reps.one (show Kd.M (Kd.int .i64) _ _ _ t327 [.int .i64 t327] from rfl) (Reps.none _ _))))))
  intro v330 w10 ho11 hb hg_ hnew_
  clear hg_ hnew_
  (first | rw [← Ny329.out] at ho11 | (simp only [Int.reduceToNat] at ho11; rw [← Ny329.out] at ho11))
  have n0_ := Aside0.mk (Kd.R_lower ho11 (keep_size (w := w) (g := g) (row := none) (by repeat (first | (with_reducible first | exact HK.out | apply KeepBut.set_ | apply keep_drewN | apply keep_drew | apply keep_alloc | refine keep_far ?_ GW324.out _) | exact HK.out))))
  have n1_ := Aside0.mk (IsS124.below (by repeat (first | (with_reducible first | exact HI0.out | apply IsS124.alloc | apply IsS124.drewN | apply IsS124.drew | apply IsS124.set_0 | refine IsS124.far ?_ NB0_324.out _) | exact HI0.out)) hb)
  have n2_ := Aside0.mk (blk_below (g := gb324) (o := .cells #[.int .i64 a1_0, .int .i64 a1_1] 24 (0, 0)) (by (with_reducible repeat (first | refine blk_drewN ?_ _ | refine blk_drew ?_ | refine blk_alloc ?_ _)); exact BK324.out) hb)
  have n3_ := Aside0.mk (KeepBut.trans (by repeat (first | (with_reducible first | exact HK.out | apply KeepBut.set_ | apply keep_drewN | apply keep_drew | apply keep_alloc | refine keep_far ?_ GW324.out _) | exact HK.out)) (KeepBut.of_below hb g none) (.inl rfl))
  have n4_ := Aside0.mk (below_step (by repeat (first | (with_reducible first | exact HB.out | apply below_alloc | apply pw_below_drewN | apply below_drew1 | refine below_set ?_ (IsS124.ge HI0.out) | refine below_set ?_ GE324.out) | exact HB.out)) hb)
  clear HI0
  clear BK324
  clear HK
  clear HB
  have HO331 := n0_
  have HI0 := n1_
  have BK324 := n2_
  have HK := n3_
  have HB := n4_
  clear n0_ n1_ n2_ n3_ n4_
  clear hb ho11
  obtain ⟨Ao12, co12, eo12⟩ := Kd.R_slice HO331.out
  (first | subst eo12 | (injection eo12 with f1_ f2_ f3_; have f4_ := f1_.symm; have f5_ := f3_.symm; clear f1_ f2_ f3_; subst f4_; subst f5_))
  refine hK.out _ _ ⟨(blk_cell BK324.out 0).trans rfl, (blk_cell BK324.out 1).trans rfl⟩ (fun hHeld => ?_)
  clear hK K
  refine norm_ (a' := ?_) ?_ ?_
  rotate_left
  · show Act.put _ (some 22) _ = _
    simp only [Act.put, List.setIfInBounds_toArray, List.set_cons_zero, List.set_cons_succ, i64_w, i32_w]
    rfl
  refine one_ (i := 18) (N := some 23) #[true, true, true, true, true, true, true, true, true, true, true, true, true, true, true, true, true, true, true, false] rfl rfl (one_of HT_.out (by kernel_rfl)) (by decide) (fun K hK => ?_)
  refine goes_ Try.func22 (by kernel_rfl) rfl #[.pointer (some ⟨g, 0, none⟩), .slice Ao12 y329.length co12] (by rfl) rfl rfl (by (try simp only [List.map_toArray, List.map_cons, List.map_nil]); first | done | rfl | (simp only [List.length_drop, List.length_take]; rfl)) ?_
  with_reducible refine (swarfkit_Feed_Either.calls g t328 _ _ y329 t332 t333 w0 _ ?side1 ?side2 ?side3 ?side4 ?side5 A5.out).mono ?_
  (case side1 => repeat (first | (with_reducible first | exact HI0.out | apply IsS124.alloc | apply IsS124.drewN | apply IsS124.drew | apply IsS124.set_0 | refine IsS124.far ?_ NB0_324.out _) | exact HI0.out))
  (case side2 => repeat (first | (with_reducible first | exact HB.out | apply below_alloc | apply pw_below_drewN | apply below_drew1 | refine below_set ?_ (IsS124.ge HI0.out) | refine below_set ?_ GE324.out) | exact HB.out))
  (case side3 => repeat (first | exact (Kd.R_reads' HO331.out).2.2 | (with_reducible refine Kd.C_alloc ?_ _) | (with_reducible refine Kd.C_drewN ?_ _) | (with_reducible refine Kd.C_drew ?_)))
  (case side4 => exact (Kd.R_reads' HO331.out).2.1)
  (case side5 => exact far_slice (IsS124.own_ne HI0.out HO331.out (by decide)))
  rintro e w13 ⟨rfl, hi, hb, hk⟩
  refine ⟨_, rfl, ?_⟩
  have n0_ := Aside0.mk (KeepBut.blk hk (g' := gb324) (o := .cells #[.int .i64 a1_0, .int .i64 a1_1] 24 (0, 0)) (by (with_reducible repeat (first | refine blk_drewN ?_ _ | refine blk_drew ?_ | refine blk_alloc ?_ _)); exact BK324.out) NB324_0.out (by simp))
  have n1_ := Aside0.mk (Kd.R_mono (Kd.R_keep (IsS124.apart (show IsS124 w0 _ g t328 from by repeat (first | (with_reducible first | exact HI0.out | apply IsS124.alloc | apply IsS124.drewN | apply IsS124.drew | apply IsS124.set_0 | refine IsS124.far ?_ NB0_324.out _) | exact HI0.out)) (by (with_reducible repeat (first | apply Kd.R_alloc | apply Kd.R_drewN | apply Kd.R_drew)); exact HO331.out) (by decide)) hk (fun _ h => h.2)) (fun _ h => h.1))
  have n2_ := Aside0.mk (KeepBut.trans (by repeat (first | (with_reducible first | exact HK.out | apply KeepBut.set_ | apply keep_drewN | apply keep_drew | apply keep_alloc | refine keep_far ?_ GW324.out _) | exact HK.out)) hk (.inl rfl))
  have n3_ := Aside0.mk (hb)
  have n4_ := Aside0.mk (hi)
  clear BK324
  clear HO331
  clear HK
  clear HB
  clear HI0
  have BK324 := n0_
  have HO331 := n1_
  have HK := n2_
  have HB := n3_
  have HI0 := n4_
  clear n0_ n1_ n2_ n3_ n4_
  (try clear hb)
  (try clear hb2)
  (try clear hk)
  (try clear hi)
  refine hK.out _ _ ⟨(blk_cell BK324.out 0).trans rfl, (blk_cell BK324.out 1).trans rfl⟩ (fun hHeld => ?_)
  clear hK K
  refine norm_ (a' := ?_) ?_ ?_
  rotate_left
  · show Act.put _ (some 23) _ = _
    simp only [Act.put, List.setIfInBounds_toArray, List.set_cons_zero, List.set_cons_succ, i64_w, i32_w]
    rfl
  refine pure_ (i := 19) (N := some 4) (v := ?_) (a' := ?_) #[true, true, true, true, true, true, true, true, true, true, true, true, true, true, true, true, true, true, true, true] rfl rfl (any_of HT_.out (by kernel_rfl)) (fun _ _ _ h => h) (Or.inl ⟨by rfl, ?_⟩) ?_ ?_
  rotate_left
  · intro w'
    go_simp
    with_reducible rfl
  rotate_left
  · simp only [Act.put, List.setIfInBounds_toArray, List.set_cons_zero, List.set_cons_succ, i64_w, i32_w]
    rfl
  refine done_ (done_of HT_.out (by kernel_rfl)) ?_
  try go_wp2
  go_ret
  exact ⟨by first | rfl | (simp [errW_none, errW_some] <;> rfl) | (simp [*, errW_none, errW_some] <;> rfl), by repeat (first | (with_reducible first | exact HI0.out | apply IsS124.alloc | apply IsS124.drewN | apply IsS124.drew | apply IsS124.set_0 | refine IsS124.far ?_ NB0_324.out _) | exact HI0.out), by repeat (first | (with_reducible first | exact HB.out | apply below_alloc | apply pw_below_drewN | apply below_drew1 | refine below_set ?_ (IsS124.ge HI0.out) | refine below_set ?_ GE324.out) | exact HB.out), by repeat (first | (with_reducible first | exact HK.out | apply KeepBut.set_ | apply keep_drewN | apply keep_drew | apply keep_alloc | refine keep_far ?_ GW324.out _) | exact HK.out)⟩
def swarfkit_Part.f (a0_0 : Int) (a0_1 : Int) (a1_0 : Int) (a1_1 : Int) : Option (Bool) := if a0_0 ≥ a1_0 then (some (decide (a0_1 ≤ a1_1))) else (some false)
set_option maxHeartbeats 8000000 in
set_option maxRecDepth 100000 in
theorem swarfkit_Part.calls (a0_0 : Int) (a0_1 : Int) (a1_0 : Int) (a1_1 : Int) (r : Bool) (w : World) (h : swarfkit_Part.f a0_0 a0_1 a1_0 a1_1 = some r) :
    Calls Try.prog 28 #[.agg #[.int .i64 a0_0, .int .i64 a0_1], .agg #[.int .i64 a1_0, .int .i64 a1_1]] w fun e w' => e = .returned (.bool r) ∧ Below w.heap.size w w' := by
  have hu24 := Try.underlying24
  have HB := Aside0.mk (Below.refl w.heap.size w)
  have H : (if a0_0 ≥ a1_0 then (some (decide (a0_1 ≤ a1_1))) else (some false)) = some r := h
  clear h
  by_cases c3 : a0_0 ≥ a1_0
  · rw [if_pos c3] at H
    have c3b0 : decide (a1_0 ≤ a0_0) = true := decide_eq_true c3
    clear c3
    obtain rfl := Option.some.inj H
    go_enter Try.func28, Try.ntmps28
    go_wp2_with (first | ((with_reducible refine gate_dst (N := 2) rfl ?_); refine box_event ?hg (N := 2) ?hd (cs := #[.int .i64 a0_0, .int .i64 a0_1]) (t := 24) ?hr ?_; (case hd => rfl); (case hg => rfl); (case hr => first | (go_simp; done) | (go_simp; rfl)); intro gb334 hg w4 hbox hb; have n0_ := Aside0.mk (below_step (by repeat (first | (with_reducible first | exact HB.out | apply below_alloc | apply pw_below_drewN | apply below_drew1) | exact HB.out)) hb); have n1_ := Aside0.mk (hbox); have n2_ := Aside0.mk ((by rw [hg]; exact (below_size (by repeat (first | (with_reducible first | exact HB.out | apply below_alloc | apply pw_below_drewN | apply below_drew1) | exact HB.out))) : w.heap.size ≤ gb334)); have n3_ := Aside0.mk ((by rw [hg]; exact (below_size (by repeat (first | (with_reducible first | exact HB.out | apply below_alloc | apply pw_below_drewN | apply below_drew1) | exact HB.out))) : w.heap.size ≤ gb334)); clear HB; have HB := n0_; have BK334 := n1_; have GW334 := n2_; have GE334 := n3_; clear n0_ n1_ n2_ n3_; clear hb hbox hg) | ((with_reducible refine gate_dst (N := 3) rfl ?_); refine box_event ?hg (N := 3) ?hd (cs := #[.int .i64 a1_0, .int .i64 a1_1]) (t := 24) ?hr ?_; (case hd => rfl); (case hg => rfl); (case hr => first | (go_simp; done) | (go_simp; rfl)); intro gb335 hg w5 hbox hb; have n0_ := Aside0.mk (blk_below (g := gb334) (o := .cells #[.int .i64 a0_0, .int .i64 a0_1] 24 (0, 0)) (by (with_reducible repeat (first | refine blk_drewN ?_ _ | refine blk_drew ?_ | refine blk_alloc ?_ _)); exact BK334.out) hb); have n1_ := Aside0.mk (below_step (by repeat (first | (with_reducible first | exact HB.out | apply below_alloc | apply pw_below_drewN | apply below_drew1 | refine below_set ?_ GE334.out) | exact HB.out)) hb); have n2_ := Aside0.mk (hbox); have n3_ := Aside0.mk ((by rw [hg]; exact (below_size (by repeat (first | (with_reducible first | exact HB.out | apply below_alloc | apply pw_below_drewN | apply below_drew1 | refine below_set ?_ GE334.out) | exact HB.out))) : w.heap.size ≤ gb335)); have n4_ := Aside0.mk ((by rw [hg]; exact (below_size (by repeat (first | (with_reducible first | exact HB.out | apply below_alloc | apply pw_below_drewN | apply below_drew1 | refine below_set ?_ GE334.out) | exact HB.out))) : w.heap.size ≤ gb335)); have n5_ := Aside0.mk ((by rw [hg]; exact Nat.ne_of_lt (blk_lt (g := gb334) (o := .cells #[.int .i64 a0_0, .int .i64 a0_1] 24 (0, 0)) (by (with_reducible repeat (first | refine blk_drewN ?_ _ | refine blk_drew ?_ | refine blk_alloc ?_ _)); exact BK334.out)) : gb334 ≠ gb335)); have n6_ := Aside0.mk ((by rw [hg]; exact Nat.ne_of_gt (blk_lt (g := gb334) (o := .cells #[.int .i64 a0_0, .int .i64 a0_1] 24 (0, 0)) (by (with_reducible repeat (first | refine blk_drewN ?_ _ | refine blk_drew ?_ | refine blk_alloc ?_ _)); exact BK334.out)) : gb335 ≠ gb334)); clear BK334; clear HB; have BK334 := n0_; have HB := n1_; have BK335 := n2_; have GW335 := n3_; have GE335 := n4_; have NB334_335 := n5_; have NB335_334 := n6_; clear n0_ n1_ n2_ n3_ n4_ n5_ n6_; clear hb hbox hg; have hnb6 := NB334_335.out; have hnc6 := NB335_334.out; have hcz7_0 : w5.cell? ⟨gb334, 0, none⟩ = some (.int .i64 a0_0) := (blk_cell BK334.out 0).trans rfl; have hcz7_1 : w5.cell? ⟨gb334, 1, none⟩ = some (.int .i64 a0_1) := (blk_cell BK334.out 1).trans rfl; have hfz7_0 := blk_frozen BK334.out 0; have hfz7_1 := blk_frozen BK334.out 1; have hcz8_0 : w5.cell? ⟨gb335, 0, none⟩ = some (.int .i64 a1_0) := (blk_cell BK335.out 0).trans rfl; have hcz8_1 : w5.cell? ⟨gb335, 1, none⟩ = some (.int .i64 a1_1) := (blk_cell BK335.out 1).trans rfl; have hfz8_0 := blk_frozen BK335.out 0; have hfz8_1 := blk_frozen BK335.out 1))
    go_ret
    exact ⟨by first | rfl | (simp [errW_none, errW_some] <;> rfl) | (simp [*, errW_none, errW_some] <;> rfl), by repeat (first | (with_reducible first | exact HB.out | apply below_alloc | apply pw_below_drewN | apply below_drew1 | refine below_set ?_ GE334.out | refine below_set ?_ GE335.out) | exact HB.out)⟩
  · rw [if_neg c3] at H
    have c3b0 : decide (a1_0 ≤ a0_0) = false := decide_eq_false c3
    clear c3
    obtain rfl := Option.some.inj H
    go_enter Try.func28, Try.ntmps28
    go_wp2_with (first | ((with_reducible refine gate_dst (N := 2) rfl ?_); refine box_event ?hg (N := 2) ?hd (cs := #[.int .i64 a0_0, .int .i64 a0_1]) (t := 24) ?hr ?_; (case hd => rfl); (case hg => rfl); (case hr => first | (go_simp; done) | (go_simp; rfl)); intro gb334 hg w9 hbox hb; have n0_ := Aside0.mk (below_step (by repeat (first | (with_reducible first | exact HB.out | apply below_alloc | apply pw_below_drewN | apply below_drew1) | exact HB.out)) hb); have n1_ := Aside0.mk (hbox); have n2_ := Aside0.mk ((by rw [hg]; exact (below_size (by repeat (first | (with_reducible first | exact HB.out | apply below_alloc | apply pw_below_drewN | apply below_drew1) | exact HB.out))) : w.heap.size ≤ gb334)); have n3_ := Aside0.mk ((by rw [hg]; exact (below_size (by repeat (first | (with_reducible first | exact HB.out | apply below_alloc | apply pw_below_drewN | apply below_drew1) | exact HB.out))) : w.heap.size ≤ gb334)); clear HB; have HB := n0_; have BK334 := n1_; have GW334 := n2_; have GE334 := n3_; clear n0_ n1_ n2_ n3_; clear hb hbox hg) | ((with_reducible refine gate_dst (N := 3) rfl ?_); refine box_event ?hg (N := 3) ?hd (cs := #[.int .i64 a1_0, .int .i64 a1_1]) (t := 24) ?hr ?_; (case hd => rfl); (case hg => rfl); (case hr => first | (go_simp; done) | (go_simp; rfl)); intro gb335 hg w10 hbox hb; have n0_ := Aside0.mk (blk_below (g := gb334) (o := .cells #[.int .i64 a0_0, .int .i64 a0_1] 24 (0, 0)) (by (with_reducible repeat (first | refine blk_drewN ?_ _ | refine blk_drew ?_ | refine blk_alloc ?_ _)); exact BK334.out) hb); have n1_ := Aside0.mk (below_step (by repeat (first | (with_reducible first | exact HB.out | apply below_alloc | apply pw_below_drewN | apply below_drew1 | refine below_set ?_ GE334.out) | exact HB.out)) hb); have n2_ := Aside0.mk (hbox); have n3_ := Aside0.mk ((by rw [hg]; exact (below_size (by repeat (first | (with_reducible first | exact HB.out | apply below_alloc | apply pw_below_drewN | apply below_drew1 | refine below_set ?_ GE334.out) | exact HB.out))) : w.heap.size ≤ gb335)); have n4_ := Aside0.mk ((by rw [hg]; exact (below_size (by repeat (first | (with_reducible first | exact HB.out | apply below_alloc | apply pw_below_drewN | apply below_drew1 | refine below_set ?_ GE334.out) | exact HB.out))) : w.heap.size ≤ gb335)); have n5_ := Aside0.mk ((by rw [hg]; exact Nat.ne_of_lt (blk_lt (g := gb334) (o := .cells #[.int .i64 a0_0, .int .i64 a0_1] 24 (0, 0)) (by (with_reducible repeat (first | refine blk_drewN ?_ _ | refine blk_drew ?_ | refine blk_alloc ?_ _)); exact BK334.out)) : gb334 ≠ gb335)); have n6_ := Aside0.mk ((by rw [hg]; exact Nat.ne_of_gt (blk_lt (g := gb334) (o := .cells #[.int .i64 a0_0, .int .i64 a0_1] 24 (0, 0)) (by (with_reducible repeat (first | refine blk_drewN ?_ _ | refine blk_drew ?_ | refine blk_alloc ?_ _)); exact BK334.out)) : gb335 ≠ gb334)); clear BK334; clear HB; have BK334 := n0_; have HB := n1_; have BK335 := n2_; have GW335 := n3_; have GE335 := n4_; have NB334_335 := n5_; have NB335_334 := n6_; clear n0_ n1_ n2_ n3_ n4_ n5_ n6_; clear hb hbox hg; have hnb11 := NB334_335.out; have hnc11 := NB335_334.out; have hcz12_0 : w10.cell? ⟨gb334, 0, none⟩ = some (.int .i64 a0_0) := (blk_cell BK334.out 0).trans rfl; have hcz12_1 : w10.cell? ⟨gb334, 1, none⟩ = some (.int .i64 a0_1) := (blk_cell BK334.out 1).trans rfl; have hfz12_0 := blk_frozen BK334.out 0; have hfz12_1 := blk_frozen BK334.out 1; have hcz13_0 : w10.cell? ⟨gb335, 0, none⟩ = some (.int .i64 a1_0) := (blk_cell BK335.out 0).trans rfl; have hcz13_1 : w10.cell? ⟨gb335, 1, none⟩ = some (.int .i64 a1_1) := (blk_cell BK335.out 1).trans rfl; have hfz13_0 := blk_frozen BK335.out 0; have hfz13_1 := blk_frozen BK335.out 1))
    go_ret
    exact ⟨by first | rfl | (simp [errW_none, errW_some] <;> rfl) | (simp [*, errW_none, errW_some] <;> rfl), by repeat (first | (with_reducible first | exact HB.out | apply below_alloc | apply pw_below_drewN | apply below_drew1 | refine below_set ?_ GE334.out | refine below_set ?_ GE335.out) | exact HB.out)⟩
end Go.Proofs.Ytkdlbocjgbmbdaa.Print

namespace Go.Proofs.Ytkdlbocjgbmbdaa.Pure
open Go.RowKit Go.Proofs.Ytkdlbocjgbmbdaa.Print Go.Proofs.YtkdlbocjgbmbdaaW.PrintWords Go.Proofs.YtkdlbocjgbmbdaaW.PrintLast
theorem w64 (x : Int) (h : -9223372036854775808 ≤ x ∧ x ≤ 9223372036854775807) : wrap64 x = x := by unfold wrap64; omega
theorem u64_range (x : Int) : 0 ≤ IntKind.u64.wrap x ∧ IntKind.u64.wrap x < 18446744073709551616 := by
  have h : IntKind.u64.wrap x = x % 18446744073709551616 := by simp [IntKind.wrap, IntKind.bits, IntKind.signed]
  rw [h]; omega
theorem u64_id (x : Int) (h : 0 ≤ x ∧ x < 18446744073709551616) : IntKind.u64.wrap x = x := by
  have h' : IntKind.u64.wrap x = x % 18446744073709551616 := by simp [IntKind.wrap, IntKind.bits, IntKind.signed]
  rw [h']; omega
theorem next_some (s : Int) : ∃ v s', swarfkit_Feed_next.f s = some (v, s') ∧ 0 ≤ v ∧ v < 18446744073709551616 := by
  refine ⟨nextV s, nextD s, rfl, ?_⟩
  unfold nextV feedMul
  exact u64_range _
/-- Below: from 0 to n - 1; 0 if n is less than 2. -/
theorem below_some (s n : Int) (h : n ≤ 9223372036854775807) : ∃ v s', swarfkit_Feed_Below.f s n = some (v, s') ∧ 0 ≤ v ∧ (n < 2 → v = 0) ∧ (2 ≤ n → v < n) := by
  unfold swarfkit_Feed_Below.f
  by_cases h2 : n < 2
  · rw [if_pos h2]
    exact ⟨0, s, rfl, by omega, fun _ => rfl, fun h => by omega⟩
  · rw [if_neg h2]
    obtain ⟨v, s', hn, h0, h1⟩ := next_some s
    rw [hn]
    simp only [Option.bind_some]
    rw [u64_id n (by omega), if_neg (by omega)]
    have e : Int.tmod (v / 256) n = (v / 256) % n := Int.tmod_eq_emod_of_nonneg (by omega)
    have e0 := Int.emod_nonneg (v / 256) (show n ≠ 0 by omega)
    have e1 := Int.emod_lt_of_pos (v / 256) (show 0 < n by omega)
    rw [e, w64 _ (by omega)]
    exact ⟨_, _, rfl, e0, fun h => by omega, fun _ => e1⟩
theorem between_some (s a b : Int) (h : -1000000000000 ≤ a ∧ a ≤ 1000000000000) (h' : -1000000000000 ≤ b ∧ b ≤ 1000000000000) : ∃ v s', swarfkit_Feed_Between.f s a b = some (v, s') ∧ a ≤ v ∧ (a ≤ b → v ≤ b) ∧ (b < a → v = a) := by
  unfold swarfkit_Feed_Between.f
  rw [w64 (b - a) (by omega), w64 (b - a + 1) (by omega)]
  obtain ⟨v, s', hv, h0, h1, h2⟩ := below_some s (b - a + 1) (by omega)
  rw [hv]
  simp only [Option.bind_some]
  by_cases hab : a < b
  · have := h2 (by omega)
    rw [w64 _ (by omega)]
    exact ⟨_, _, rfl, by omega, fun _ => by omega, fun _ => by omega⟩
  · have := h1 (by omega)
    rw [w64 _ (by omega)]
    exact ⟨_, _, rfl, by omega, fun _ => by omega, fun _ => by omega⟩
end Go.Proofs.Ytkdlbocjgbmbdaa.Pure

namespace Go.Proofs.Ytkdlbocjgbmbdaa.Print
open Go.RowKit Go.Shelf Go.Proofs.YtkdlbocjgbmbdaaW.PrintWords
set_option linter.unusedVariables false
attribute [local go_sem] Oper.semAt_some
/-- The numbers of the dues that are in cash, among the first k. -/
def cashI (ds : List S61) : Nat → List (Fin ds.length)
  | 0 => []
  | k + 1 => cashI ds k ++ (if h : k < ds.length then (if (ds[k]).f3 then [⟨k, h⟩] else []) else [])
theorem cashI_yes (ds : List S61) (k : Nat) (h : k < ds.length) (h3 : (ds[k]).f3 = true) : cashI ds (k + 1) = cashI ds k ++ [⟨k, h⟩] := by
  simp only [cashI, dif_pos h, h3, if_true]
theorem cashI_no (ds : List S61) (k : Nat) (h : k < ds.length) (h3 : (ds[k]).f3 = false) : cashI ds (k + 1) = cashI ds k := by
  simp [cashI, dif_pos h, h3]
theorem cashI_len (ds : List S61) : ∀ k, (cashI ds k).length ≤ k
  | 0 => Nat.le_refl _
  | k + 1 => by
    have := cashI_len ds k
    simp only [cashI, List.length_append]
    split
    · split <;> simp <;> omega
    · simp; omega
def dueV (d : S61) : Array Value := #[.int .i64 d.f0, .int .i64 d.f1, .int .i64 d.f2, .bool d.f3]
def dueArgs (ds : List S61) (i : Fin ds.length) : Array Value := #[.int .i64 (i.1 : Int), .agg #[.int .i64 (ds[i]).f0, .int .i64 (ds[i]).f1, .int .i64 (ds[i]).f2, .bool (ds[i]).f3]]
theorem rd_T61_at (ds : List S61) (k : Nat) (h : k < ds.length) : rd_T61 ds (k : Int) = ds[k] := by
  simp [rd_T61, List.getD_eq_getElem?_getD, List.getElem?_eq_getElem h]
set_option maxRecDepth 100000 in
set_option maxHeartbeats 2000000 in
theorem cash1_in (F : Fence) (n : Nat) (hF : F.fn 146) (hro : F.round = none) (hn : 1 ≤ n) (l Bs : Nat) (A : Option Addr) (c : Nat) (ds : List S61) (w W : World) (J Jx : List (Fin ds.length) → World → Prop)
    (hY : ∀ pre x W, J pre W → pre.length < ds.length → YieldAt F (n - 1) Try.prog l (dueArgs ds x) W fun e W' =>
      (e = .returned (.bool true) ∧ J (pre ++ [x]) W' ∧ Below w.heap.size W W') ∨ (e = .returned (.bool false) ∧ Jx (pre ++ [x]) W'))
    (hJ : AbidesFrom W.heap.size J)
    (hBW : W.cell? ⟨Bs, 0, none⟩ = some (.slice A ds.length c)) (hW : Below w.heap.size w W) (hC : Kd.C k61 w A ds.length ds) (h0 : J [] W) :
    CallsIn F n Try.prog 146 #[.func (.yield l) #[] #[], .pointer (some ⟨Bs, 0, none⟩)] W fun e W' => (∃ v, e = .returned v) ∧
      ((∃ ys, ys = cashI ds ds.length ∧ J ys W') ∨ (∃ pre, True ∧ Jx pre W')) := by
  have hmax := Kd.C_max hC
  refine callsIn_of_wp Try.func146 rfl hF ?_ hro
  simp only [Try.ntmps146, List.size_toArray, List.length_cons, List.length_nil, Nat.reduceAdd, Nat.reduceSub, Array.replicate_succ, Array.replicate_zero, List.push_toArray, List.append_toArray, List.nil_append, List.cons_append]
  gi_wp2
  gi_loopw [7] (fun i wr => ∃ k : Nat, k ≤ ds.length ∧ i = .int .i64 k ∧ J (cashI ds k) wr ∧ Below w.heap.size w wr)
    (fun i _ => ds.length - (intOf i).toNat)
  case atStart => exact ⟨0, Nat.zero_le _, rfl, h0, hW⟩
  case round =>
    obtain ⟨k, hk, rfl, hJs, hnx⟩ := hrel
    by_cases hlt : k < ds.length
    · obtain ⟨ad, hA, c0, c1, c2, c3⟩ := at_T61 (Kd.C_below hC hnx) k (by omega) (by omega)
      subst hA
      simp only [Int.toNat_natCast] at c0 c1 c2 c3
      rw [rd_T61_at ds k hlt] at c0 c1 c2 c3
      obtain ⟨d, hd⟩ : ∃ d, d = ds[k] := ⟨_, rfl⟩
      rw [← hd] at c0 c1 c2 c3
      have HD : Hid (d = ds[k]) := hd
      clear hd
      cases hc3 : d.f3 with
      | false =>
        rw [hc3] at c3
        have HE : Hid (cashI ds (k + 1) = cashI ds k) := cashI_no ds k hlt (by rw [← HD.out]; exact hc3)
        gi_wp2
        refine ⟨fun _ h => (by cases h), ?_⟩
        gi_wp2
        go_roundw
        case rel => exact ⟨k + 1, by omega, by simp, by rw [HE.out]; exact hJ _ _ _ none hJs (World.grownBy_alloc wr _ none) (by simp), hnx.alloc (by have := hnx.size; omega) _⟩
        case measure => simp [intOf]; omega
      | true =>
        rw [hc3] at c3
        have HE : Hid (cashI ds (k + 1) = cashI ds k ++ [⟨k, hlt⟩]) := cashI_yes ds k hlt (by rw [← HD.out]; exact hc3)
        have hJ2 : J (cashI ds k) (wr.alloc (.cells #[.int .i64 d.f0, .int .i64 d.f1, .int .i64 d.f2, .bool true] 61)) := hJ _ _ _ none hJs (World.grownBy_alloc wr _ none) (by simp)
        obtain ⟨fn, tmps, assign, body, hy, hR⟩ := hY _ ⟨k, hlt⟩ _ hJ2 (by have := cashI_len ds k; omega)
        have hy2 : (Instr.yield l #[.int .i64 (k : Int), .agg #[.int .i64 d.f0, .int .i64 d.f1, .int .i64 d.f2, .bool true]]).run Try.prog (wr.alloc (.cells #[.int .i64 d.f0, .int .i64 d.f1, .int .i64 d.f2, .bool true] 61)) = .ok (.round l fn tmps assign body) (wr.alloc (.cells #[.int .i64 d.f0, .int .i64 d.f1, .int .i64 d.f2, .bool true] 61)) := by
          rw [← hc3]; rw [← hc3] at hy; rw [HD.out] at hy ⊢; exact hy
        clear hy
        gi_wp2
        refine hR.mono ?_
        rintro e W3 (⟨rfl, hJ3, hk3⟩ | ⟨rfl, hJx3⟩)
        · gi_wp2
          go_roundw
          case rel => exact ⟨k + 1, by omega, by simp, by rw [HE.out]; exact hJ3, (hnx.alloc (by have := hnx.size; omega) _).trans hk3⟩
          case measure => simp [intOf]; omega
        · gi_wp2
          refine bodyPost_ret (results_none rfl _ _ _) rfl ?_
          exact ⟨⟨_, rfl⟩, .inr ⟨_, trivial, hJx3⟩⟩
    · obtain rfl : k = ds.length := by omega
      gi_wp2
      go_end0
      exact ⟨⟨_, rfl⟩, .inl ⟨_, rfl, hJs⟩⟩
theorem cash_in (F : Fence) (n : Nat) (hF : F.fn 125) (hro : F.round = none) (A : Option Addr) (l c : Nat) (w : World) :
    CallsIn F n Try.prog 125 #[.slice A l c] w fun e w' => e = .returned (.func (.func 146) #[] #[.pointer (some ⟨w.heap.size, 0, none⟩)]) ∧ w' = w.alloc (.cells #[.slice A l c] 46) := by
  refine callsIn_of_wp Try.func125 rfl hF ?_ hro
  simp only [Try.ntmps125, List.size_toArray, List.length_cons, List.length_nil, Nat.reduceAdd, Nat.reduceSub, Array.replicate_succ, Array.replicate_zero, List.push_toArray, List.append_toArray, List.nil_append, List.cons_append]
  gi_wp2
  go_ret
  exact ⟨rfl, rfl⟩
theorem cash_stops (F : Fence) (n : Nat) (hF : F.fn 146) (hro : F.round = none) (hn : 1 ≤ n) (Bs : Nat) (A : Option Addr) (c : Nat) (ds : List S61) (w w1 : World)
    (hBs : w1.cell? ⟨Bs, 0, none⟩ = some (.slice A ds.length c)) (hW : Below w.heap.size w w1) (hC : Kd.C k61 w A ds.length ds) :
    SeqStopsK F n Try.prog 146 #[.pointer (some ⟨Bs, 0, none⟩)] (dueArgs ds) (Below w.heap.size) (fun ys => ys = cashI ds ds.length) (fun _ => True) ds.length w1 := fun l J Jx W hW1 hJ _ hY h0 =>
  cash1_in F n hF hro hn l Bs A c ds w W J Jx hY hJ ((hW1.cell (p := ⟨Bs, 0, none⟩) (World.block_lt_of_cell? w1 _ hBs)).trans hBs) (hW.trans (hW1.mono hW.size)) hC h0
end Go.Proofs.Ytkdlbocjgbmbdaa.Print

namespace Go.Proofs.Ytkdlbocjgbmbdaa.Print
open Go.RowKit Go.Shelf Go.Proofs.YtkdlbocjgbmbdaaW.PrintWords
set_option linter.unusedVariables false
attribute [local go_sem] Oper.semAt_some
attribute [local go_sem] wide_fn wide_asked
structure OkDue (names : Int) (d : S61) : Prop where
  day0 : 0 ≤ d.f0
  day1 : d.f0 ≤ 4000
  name0 : 0 ≤ d.f1
  name1 : d.f1 < names
  cents0 : 0 ≤ d.f2
  cents1 : d.f2 ≤ 100000000
def inWin (xs : List Bool) (window name day : Int) (d : S61) : Bool := xs.getD (name.toNat * 8 + d.f1.toNat) false && (decide (day - window + 1 ≤ d.f0) && decide (d.f0 ≤ day))
def winStep (xs : List Bool) (window name day : Int) (s : Int) (d : S61) : Int := if inWin xs window name day d then s + d.f2 else s
def sumWin (xs : List Bool) (window name day : Int) (ds : List S61) (l : List (Fin ds.length)) : Int := l.foldl (fun s i => winStep xs window name day s ds[i]) 0
theorem sumWin_snoc (xs : List Bool) (window name day : Int) (ds : List S61) (l : List (Fin ds.length)) (i : Fin ds.length) : sumWin xs window name day ds (l ++ [i]) = winStep xs window name day (sumWin xs window name day ds l) ds[i] := by
  simp only [sumWin, List.foldl_append, List.foldl_cons, List.foldl_nil]
def inB (n low high : Int) : Bool := decide (low ≤ n) && decide (n ≤ high)
theorem in_any (n low high : Int) (w : World) : Calls Try.prog 81 #[.int .i64 n, .int .i64 low, .int .i64 high] w fun e w' => e = .returned (.bool (inB n low high)) ∧ w' = w := by
  by_cases h1 : low ≤ n
  · by_cases h2 : n ≤ high
    · go_enter Try.func81, Try.ntmps81
      go_wp2
      go_ret
      exact ⟨by simp [inB, h1, h2], rfl⟩
    · go_enter Try.func81, Try.ntmps81
      go_wp2
      go_ret
      exact ⟨by simp [inB, h1, h2], rfl⟩
  · go_enter Try.func81, Try.ntmps81
    go_wp2
    go_ret
    have h3 : decide (low ≤ n) = false := by simpa using h1
    exact ⟨by simp [inB, h3], rfl⟩
theorem in_quiet (F : Fence) (m : Nat) (hF : F = Fence.wide) (n low high : Int) (w : World) (k : Nat) : CallsIn F m Try.prog 81 #[.int .i64 n, .int .i64 low, .int .i64 high] (w.drewN k) fun e w'' => e = .returned (.bool (inB n low high)) ∧ ∃ m, w'' = w.drewN m := by
  subst hF
  exact callsIn_wide.2 ((in_any n low high _).mono fun e w' ⟨he, hw⟩ => ⟨he, k, hw⟩)
set_option maxRecDepth 100000 in
set_option maxHeartbeats 4000000 in
theorem within_any (names limit window : Int) (vl vd : Value) (A : Option Addr) (c : Nat) (ds : List S61) (xs : List Bool) (name day : Int) (w : World)
    (hC : Kd.C k61 w A ds.length ds) (hxs : xs.length = 64) (hn0 : 0 ≤ name) (hn1 : name < 8) (hw0 : 1 ≤ window) (hw1 : window ≤ 30) (hd0 : 0 ≤ day) (hd1 : day ≤ 4000) (hds : ∀ d ∈ ds, OkDue names d) (hnames : names ≤ 8) (hlen : ds.length ≤ 1000) :
    Calls Try.prog 86 #[.agg #[.int .i64 names, .int .i64 limit, .int .i64 window, vl, vd], .slice A ds.length c, .agg (boolCells xs), .int .i64 name, .int .i64 day] w fun e w' =>
      e = .returned (.int .i64 (sumWin xs window name day ds (cashI ds ds.length))) ∧ Below w.heap.size w w' := by
  refine (callsIn_wide (n := 4)).1 ?_
  have h1 : 1 ≤ 4 := by omega
  refine callsIn_of_wp_marks Try.func86 rfl trivial ?_ rfl
  simp only [Try.ntmps86, List.size_toArray, List.length_cons, List.length_nil, Nat.reduceAdd, Nat.reduceSub, Array.replicate_succ, Array.replicate_zero, List.push_toArray, List.append_toArray, List.nil_append, List.cons_append]
  gi_wp2_with (gi_at_call 125; refine (cash_in Fence.wide _ trivial rfl _ _ _ _).mono ?_; rintro e w' ⟨rfl, rfl⟩)
  obtain ⟨W0, hW0⟩ : ∃ W0, ((((((w.alloc (.cells #[.int .i64 names, .int .i64 limit, .int .i64 window, vl, vd] 48)).alloc (.cells (boolCells xs) 134)).alloc (.cells #[.int .i64 name] 3)).alloc (.cells #[.int .i64 day] 3)).alloc (.cells #[.int .i64 0] 3)).alloc (.cells #[.slice A ds.length c] 46)) = W0 := ⟨_, rfl⟩
  have hsz : W0.heap.size = w.heap.size + 6 := by rw [← hW0]; simp
  have hB0 : Below w.heap.size w W0 := by rw [← hW0]; repeat (first | exact Below.refl _ _ | refine below_alloc ?_ _)
  have b5 : Blk W0 w.heap.size 48 #[.int .i64 names, .int .i64 limit, .int .i64 window, vl, vd] := by rw [← hW0]; exact (((((blk_new w 48 _).alloc _).alloc _).alloc _).alloc _).alloc _
  have b7 : Blk W0 (w.heap.size + 1) 134 (boolCells xs) := by rw [← hW0]; exact ((((blk_new' (by simp)).alloc _).alloc _).alloc _).alloc _
  have b8 : Blk W0 (w.heap.size + 1 + 1) 3 #[.int .i64 name] := by rw [← hW0]; exact (((blk_new' (by simp)).alloc _).alloc _).alloc _
  have b9 : Blk W0 (w.heap.size + 1 + 1 + 1) 3 #[.int .i64 day] := by rw [← hW0]; exact ((blk_new' (by simp)).alloc _).alloc _
  have b11 : Blk W0 (w.heap.size + 1 + 1 + 1 + 1) 3 #[.int .i64 0] := by rw [← hW0]; exact (blk_new' (by simp)).alloc _
  have b6 : W0.cell? ⟨w.heap.size + 1 + 1 + 1 + 1 + 1, 0, none⟩ = some (.slice A ds.length c) := by rw [← hW0]; exact (blk_new' (by simp)).cell 0 rfl
  rw [hW0]
  clear hW0
  have hseq := cash_stops Fence.wide (4 - 1) trivial rfl (by omega) (w.heap.size + 1 + 1 + 1 + 1 + 1) A c ds w W0 b6 hB0 hC
  refine wpIn_rangeFunc_ownH rfl h1 (gf := 146) (lb := #[.pointer (some ⟨w.heap.size + 1 + 1 + 1 + 1 + 1, 0, none⟩)]) rfl trivial (enters_of Try.func146 (by kernel_rfl) rfl)
    hseq belowK_t (belowK_b (by omega)) (Below.refl _ _) (fun _ => rfl)
    (fun pre W => (Blk W (w.heap.size + 1 + 1 + 1 + 1) 3 #[.int .i64 (sumWin xs window name day ds pre)] ∧ Blk W w.heap.size 48 #[.int .i64 names, .int .i64 limit, .int .i64 window, vl, vd] ∧ Blk W (w.heap.size + 1) 134 (boolCells xs) ∧ Blk W (w.heap.size + 1 + 1) 3 #[.int .i64 name] ∧ Blk W (w.heap.size + 1 + 1 + 1) 3 #[.int .i64 day] ∧ (0 ≤ sumWin xs window name day ds pre ∧ sumWin xs window name day ds pre ≤ 100000000 * pre.length)) ∧ W0.heap.size ≤ W.heap.size ∧ Below w.heap.size w W)
    (fun _ _ _ => False)
    ?hI (fun _ _ _ _ _ hs _ _ => hs) ⟨⟨b11, b5, b7, b8, b9, by simp [sumWin], by simp [sumWin]⟩, Nat.le_refl _, hB0⟩
    (fun i a' W => ∃ Bx, W0.heap.size ≤ Bx ∧ Blk W Bx 61 (dueV ds[i]) ∧ a' = { tmps := #[.agg #[.int .i64 names, .int .i64 limit, .int .i64 window, vl, vd], .slice A ds.length c, .agg (boolCells xs), .int .i64 name, .int .i64 day, .pointer (some ⟨w.heap.size, 0, none⟩), undef, .pointer (some ⟨w.heap.size + 1, 0, none⟩), .pointer (some ⟨w.heap.size + 1 + 1, 0, none⟩), .pointer (some ⟨w.heap.size + 1 + 1 + 1, 0, none⟩), .int .i64 0, .pointer (some ⟨w.heap.size + 1 + 1 + 1 + 1, 0, none⟩), undef, .pointer (some ⟨Bx, 0, none⟩), .slice A ds.length c, .func (.func 146) #[] #[.pointer (some ⟨w.heap.size + 1 + 1 + 1 + 1 + 1, 0, none⟩)], .int .i64 (i.1 : Int), .agg (dueV ds[i]), undef, undef, undef, undef, undef, undef, undef, undef, undef, undef, undef, undef, undef, undef, undef, undef, undef, undef, undef, undef, undef, undef], defers := [] })
    ?hAx ?assign ?body ?done ?stop
  case hI => exact OwnFrom.and (Own.from (fun s A B row hs hg hr => ⟨blk_own _ _ (fun _ : Unit => _) () A B row hs.1 hg hr, blk_own _ _ (fun _ : Unit => _) () A B row hs.2.1 hg hr, blk_own _ _ (fun _ : Unit => _) () A B row hs.2.2.1 hg hr, blk_own _ _ (fun _ : Unit => _) () A B row hs.2.2.2.1 hg hr, blk_own _ _ (fun _ : Unit => _) () A B row hs.2.2.2.2.1 hg hr, hs.2.2.2.2.2⟩) _) (OwnFrom.and (Own.from (size_own _) _) (ownFrom_below (Nat.le_refl _) (by omega)))
  case hAx =>
    intro i a' s A B row hs hg hr
    obtain ⟨Bx, hBx, hb, e⟩ := hs
    exact ⟨Bx, hBx, blk_own _ _ (fun _ : Unit => _) () A B row hb hg (fun r e => (hr r e).2), e⟩
  case assign =>
    intro l pre x W K hi hK
    dsimp only [dueArgs]
    gi_wp2
    refine hK _ _ ((KeepsOthers.alloc _ _).from _) ((Below.refl _ W).alloc (by have := hi.2.2.size; omega) _) ⟨⟨hi.1.1.below (below_alloc (Below.refl _ _) _) (Array.getElem?_eq_some_iff.1 hi.1.1).1, hi.1.2.1.below (below_alloc (Below.refl _ _) _) (Array.getElem?_eq_some_iff.1 hi.1.2.1).1, hi.1.2.2.1.below (below_alloc (Below.refl _ _) _) (Array.getElem?_eq_some_iff.1 hi.1.2.2.1).1, hi.1.2.2.2.1.below (below_alloc (Below.refl _ _) _) (Array.getElem?_eq_some_iff.1 hi.1.2.2.2.1).1, hi.1.2.2.2.2.1.below (below_alloc (Below.refl _ _) _) (Array.getElem?_eq_some_iff.1 hi.1.2.2.2.2.1).1, hi.1.2.2.2.2.2⟩, by have := hi.2.1; simp; omega, hi.2.2.alloc (by have := hi.2.2.size; omega) _⟩ ⟨W.heap.size, hi.2.1, World.alloc_heap_new W _, rfl⟩
  case body =>
    rintro l pre i a' W hl ⟨r, hr⟩ ⟨⟨m11, m5, m7, m8, m9, hs0, hs1⟩, hWs, hBW⟩ ⟨Bx, hBx, bX, rfl⟩ hlt
    have hd := hds ds[i] (List.getElem_mem _)
    obtain ⟨d, hdd⟩ : ∃ d, d = ds[i] := ⟨_, rfl⟩
    rw [← hdd] at bX hd ⊢
    have HD : Hid (d = ds[i]) := hdd
    clear hdd
    obtain ⟨q1, q2, q3, q4, q5, q6⟩ := hd
    simp only [dueV] at bX ⊢
    gi_wp2
    have c8 : W.cell? ⟨w.heap.size + 1 + 1, 0, none⟩ = some (.int .i64 name) := by rw [cell_of_row W _ 0 _ _ _ m8]; rfl
    have c9 : W.cell? ⟨w.heap.size + 1 + 1 + 1, 0, none⟩ = some (.int .i64 day) := by rw [cell_of_row W _ 0 _ _ _ m9]; rfl
    have c5 : W.cell? ⟨w.heap.size, 2, none⟩ = some (.int .i64 window) := by rw [cell_of_row W _ 2 _ _ _ m5]; rfl
    have cx0 : W.cell? ⟨Bx, 0, none⟩ = some (.int .i64 d.f0) := by rw [cell_of_row W _ 0 _ _ _ bX]; rfl
    have cx1 : W.cell? ⟨Bx, 1, none⟩ = some (.int .i64 d.f1) := by rw [cell_of_row W _ 1 _ _ _ bX]; rfl
    have cx2 : W.cell? ⟨Bx, 2, none⟩ = some (.int .i64 d.f2) := by rw [cell_of_row W _ 2 _ _ _ bX]; rfl
    have c7 : W.cell? ⟨w.heap.size + 1, name.toNat * 8 + d.f1.toNat, none⟩ = some (.bool (xs.getD (name.toNat * 8 + d.f1.toNat) false)) := by
      rw [cell_of_row W _ _ _ _ _ m7]
      have : name.toNat * 8 + d.f1.toNat < xs.length := by omega
      simp [boolCells, List.getElem?_eq_getElem this, List.getD_eq_getElem?_getD]
    cases hb : xs.getD (name.toNat * 8 + d.f1.toNat) false with
    | false =>
      rw [hb] at c7
      refine wpIn_region_quiet_round (F := Fence.wide) rfl (by kernel_rfl) (by kernel_rfl) (by kernel_rfl) ?_
      repeat (gi_big_quiet_step (fail))
      refine wpQuietIn_nil ?_
      intro _ hw'
      obtain ⟨nq, hw''⟩ := hw'
      subst hw''
      gi_wp2
      have e0 : sumWin xs window name day ds (pre ++ [i]) = sumWin xs window name day ds pre := by
        rw [sumWin_snoc, ← HD.out, winStep, inWin, hb]; simp
      exact ⟨(keeps_drewN W nq).from _, below_drewN' (Below.refl _ _) nq, ⟨by rw [e0]; exact m11, m5, m7, m8, m9, by rw [e0]; exact hs0, by rw [e0]; simp; omega⟩, hWs, below_drewN' hBW nq⟩
    | true =>
      rw [hb] at c7
      refine wpIn_region_quiet_round (F := Fence.wide) rfl (by kernel_rfl) (by kernel_rfl) (by kernel_rfl) ?_
      repeat (gi_big_quiet_step (exact in_quiet _ _ rfl _ _ _ _ _))
      refine wpQuietIn_nil ?_
      intro _ hw'
      obtain ⟨nq, hw''⟩ := hw'
      subst hw''
      have c11 := (m11.drewN nq).cell 0 rfl
      have f11 := (m11.drewN nq).frozen 0
      have cx3 := (bX.drewN nq).cell 2 rfl
      cases hin : inB d.f0 (day - window + 1) day with
      | false =>
        gi_wp2
        have e0 : sumWin xs window name day ds (pre ++ [i]) = sumWin xs window name day ds pre := by
          rw [sumWin_snoc, ← HD.out, winStep, inWin, hb, Bool.true_and, show (decide (day - window + 1 ≤ d.f0) && decide (d.f0 ≤ day)) = false from hin]; simp
        exact ⟨(keeps_drewN W nq).from _, below_drewN' (Below.refl _ _) nq, ⟨by rw [e0]; exact m11, m5, m7, m8, m9, by rw [e0]; exact hs0, by rw [e0]; simp; omega⟩, hWs, below_drewN' hBW nq⟩
      | true =>
        have hpl : (pre.length : Int) ≤ 1000 := by omega
        gi_wp2
        have e0 : sumWin xs window name day ds (pre ++ [i]) = sumWin xs window name day ds pre + d.f2 := by
          rw [sumWin_snoc, ← HD.out, winStep, inWin, hb, Bool.true_and, show (decide (day - window + 1 ≤ d.f0) && decide (d.f0 ≤ day)) = true from hin]; simp
        refine ⟨((keeps_drewN W nq).trans (KeepsOthers.setCell _ _ _)).from _, (below_drewN' (Below.refl _ _) nq).setCell (p := ⟨w.heap.size + 1 + 1 + 1 + 1, 0, none⟩) (by simp; omega) _, ⟨by rw [e0]; exact (m11.drewN nq).set 0 _, (m5.drewN nq).far (by dsimp only; omega) _, (m7.drewN nq).far (by dsimp only; omega) _, (m8.drewN nq).far (by dsimp only; omega) _, (m9.drewN nq).far (by dsimp only; omega) _, by rw [e0]; omega, by rw [e0]; simp; omega⟩, by simp; exact hWs, (below_drewN' hBW nq).setCell (p := ⟨w.heap.size + 1 + 1 + 1 + 1, 0, none⟩) (by simp; omega) _⟩
  case done =>
    rintro D ys W hD rfl ⟨⟨m11, m5, m7, m8, m9, hs0, hs1⟩, hWs, hBW⟩ hK
    have c11 := m11.cell 0 rfl
    gi_wp2
    refine ⟨by simp, .inl ⟨_, _, rfl, run_takeDeferred hK, ?_⟩⟩
    exact ⟨_, results_tmp rfl _ _ _, rfl, hBW.trans (belowK_b (w := w) (Nat.le_refl _) W D _ _ (by omega) hK rfl rfl)⟩
  case stop =>
    rintro D c pre W _ _ h _
    exact h.elim
end Go.Proofs.Ytkdlbocjgbmbdaa.Print

namespace Go.Proofs.Ytkdlbocjgbmbdaa.Print
open Go.RowKit Go.Shelf Go.Proofs.YtkdlbocjgbmbdaaW.PrintWords
set_option linter.unusedVariables false
attribute [local go_sem] Oper.semAt_some
attribute [local go_sem] wide_fn wide_asked
def linkV (l : S84) : Array Value := #[.int .i64 l.f0, .int .i64 l.f1, .bool l.f2]
def sameB (o l : S84) : Bool := (o.f0 == l.f0 && o.f1 == l.f1) || (o.f0 == l.f1 && o.f1 == l.f0)
set_option maxRecDepth 100000 in
set_option maxHeartbeats 2000000 in
theorem check1_any (o l : S84) (Bx : Nat) (w : World) (hb : Blk w Bx 84 (linkV l)) :
    Calls Try.prog 123 #[.agg #[.int .i64 o.f0, .int .i64 o.f1, .bool o.f2], .pointer (some ⟨Bx, 0, none⟩)] w fun e w' => e = .returned (.bool (sameB o l)) ∧ Below w.heap.size w w' := by
  have hlt := hb.lt
  have c0 := (hb.alloc (.cells #[.int .i64 o.f0, .int .i64 o.f1, .bool o.f2] 84)).cell 0 rfl
  have c1 := (hb.alloc (.cells #[.int .i64 o.f0, .int .i64 o.f1, .bool o.f2] 84)).cell 1 rfl
  simp only [linkV] at c0 c1
  have hB := (Below.refl w.heap.size w).alloc (Nat.le_refl _) (.cells #[.int .i64 o.f0, .int .i64 o.f1, .bool o.f2] 84)
  clear hb
  cases h1 : (o.f0 == l.f0) <;> cases h2 : (o.f1 == l.f1) <;> cases h3 : (o.f0 == l.f1) <;> cases h4 : (o.f1 == l.f0)
  all_goals
    go_enter Try.func123, Try.ntmps123
    go_wp2
    go_ret
    exact ⟨by simp [sameB, h1, h2, h3, h4], hB⟩
/-- The first place at which a test says yes; -1 if there is none. -/
def firstI (f : Nat → Bool) : Nat → Int
  | 0 => -1
  | n + 1 => if 0 ≤ firstI f n then firstI f n else if f n then (n : Int) else -1
theorem firstI_no (f : Nat → Bool) : ∀ n, (∀ j, j < n → f j = false) → firstI f n = -1
  | 0, _ => rfl
  | n + 1, h => by
    rw [firstI, firstI_no f n (fun j hj => h j (by omega)), h n (by omega)]; simp
theorem firstI_yes (f : Nat → Bool) (k : Nat) (hk : f k = true) (hno : ∀ j, j < k → f j = false) : ∀ n, k < n → firstI f n = k
  | 0, h => absurd h (by omega)
  | n + 1, h => by
    rcases Nat.lt_or_ge k n with h' | h'
    · rw [firstI, firstI_yes f k hk hno n h', if_pos (by omega)]
    · obtain rfl : k = n := by omega
      rw [firstI, firstI_no f k hno, hk]; simp
theorem firstI_ge (f : Nat → Bool) : ∀ n, 0 ≤ firstI f n ↔ ∃ j, j < n ∧ f j = true
  | 0 => by simp [firstI]
  | n + 1 => by
    rw [firstI]
    by_cases h : 0 ≤ firstI f n
    · rw [if_pos h]
      obtain ⟨j, hj, hf⟩ := (firstI_ge f n).1 h
      exact ⟨fun _ => ⟨j, by omega, hf⟩, fun _ => h⟩
    · rw [if_neg h]
      constructor
      · intro h2
        split at h2
        · exact ⟨n, by omega, ‹_›⟩
        · omega
      · rintro ⟨j, hj, hf⟩
        rcases Nat.lt_or_ge j n with h' | h'
        · exact absurd ((firstI_ge f n).2 ⟨j, h', hf⟩) h
        · obtain rfl : j = n := by omega
          rw [if_pos hf]; omega
theorem rd_T84_at (xs : List S84) (k : Nat) (h : k < xs.length) : rd_T84 xs (k : Int) = xs[k] := by
  simp [rd_T84, List.getD_eq_getElem?_getD, List.getElem?_eq_getElem h]
set_option maxRecDepth 100000 in
set_option maxHeartbeats 4000000 in
theorem index145_any (A : Option Addr) (c : Nat) (ls : List S84) (l : S84) (Bx : Nat) (w : World) (hC : Kd.C k84 w A ls.length ls) (hb : Blk w Bx 84 (linkV l)) :
    Calls Try.prog 145 #[.slice A ls.length c, .func (.func 123) #[] #[.pointer (some ⟨Bx, 0, none⟩)]] w fun e w' => e = .returned (.int .i64 (firstI (fun j => sameB (ls.getD j z84) l) ls.length)) ∧ Below w.heap.size w w' := by
  have hmax := Kd.C_max hC
  go_enter Try.func145, Try.ntmps145
  go_wp2
  go_loopw [8] (fun i wr => ∃ k : Nat, k ≤ ls.length ∧ i = .int .i64 k ∧ Hid (∀ j, j < k → sameB (ls.getD j z84) l = false) ∧ Below w.heap.size w wr) (fun i _ => ls.length - (intOf i).toNat)
  case atStart => exact ⟨0, Nat.zero_le _, rfl, fun j hj => absurd hj (by omega), Below.refl _ _⟩
  case round =>
    obtain ⟨k, hk, rfl, hno, hnx⟩ := hrel
    by_cases hlt : k < ls.length
    · obtain ⟨ad, hA, c0, c1, c2⟩ := at_T84 (Kd.C_below hC hnx) k (by omega) (by omega)
      subst hA
      simp only [Int.toNat_natCast] at c0 c1 c2
      rw [rd_T84_at ls k hlt] at c0 c1 c2
      obtain ⟨d, hd⟩ : ∃ d, d = ls[k] := ⟨_, rfl⟩
      rw [← hd] at c0 c1 c2
      have HD : Hid (d = ls[k]) := hd
      clear hd
      have hbr := hb.below hnx hb.lt
      have hg0 : ls.getD k z84 = d := by rw [HD.out]; simp [List.getD_eq_getElem?_getD, List.getElem?_eq_getElem hlt]
      have HG : Hid (ls.getD k z84 = d) := hg0
      clear hg0
      cases hs : sameB d l
      all_goals go_wp2_with (go_at_call 123; refine (check1_any _ _ _ _ hbr).mono ?_; rintro e w1 ⟨rfl, hb1⟩)
      · go_roundw
        case rel => exact ⟨k + 1, by omega, by go_num, fun j hj => by
          rcases Nat.lt_or_ge j k with h | h
          · exact hno.out j h
          · obtain rfl : j = k := by omega
            rw [HG.out]; exact hs, hnx.trans (hb1.mono hnx.size)⟩
        case measure => simp [intOf]; omega
      · go_ret
        exact ⟨by rw [firstI_yes (fun j => sameB (ls.getD j z84) l) k (by rw [HG.out]; exact hs) hno.out _ hlt]; rfl, hnx.trans (hb1.mono hnx.size)⟩
    · obtain rfl : k = ls.length := by omega
      go_wp2
      go_ret
      exact ⟨by rw [firstI_no (fun j => sameB (ls.getD j z84) l) _ hno.out]; rfl, hnx⟩
def hasSame (ls : List S84) (l : S84) : Bool := ls.any fun o => sameB o l
theorem firstI_any {α : Type} (g : α → Bool) (z : α) (xs : List α) : decide (0 ≤ firstI (fun j => g (xs.getD j z)) xs.length) = xs.any g := by
  rw [Bool.eq_iff_iff, decide_eq_true_iff, firstI_ge, List.any_eq_true]
  constructor
  · rintro ⟨j, hj, hf⟩
    exact ⟨xs[j], List.getElem_mem _, by simpa [List.getD_eq_getElem?_getD, List.getElem?_eq_getElem hj] using hf⟩
  · rintro ⟨x, hx, hf⟩
    obtain ⟨j, hj, rfl⟩ := List.mem_iff_getElem.1 hx
    exact ⟨j, hj, by simpa [List.getD_eq_getElem?_getD, List.getElem?_eq_getElem hj] using hf⟩
set_option maxHeartbeats 1000000 in
theorem contains122_any (A : Option Addr) (n c : Nat) (ls : List S84) (l : S84) (Bx : Nat) (w : World) (hC : Kd.C k84 w A n ls) (hb : Blk w Bx 84 (linkV l)) :
    Calls Try.prog 122 #[.slice A n c, .func (.func 123) #[] #[.pointer (some ⟨Bx, 0, none⟩)]] w fun e w' => e = .returned (.bool (hasSame ls l)) ∧ Below w.heap.size w w' := by
  obtain rfl : ls.length = n := Kd.C_len hC
  have HE : Hid (decide (0 ≤ firstI (fun j => sameB (ls.getD j z84) l) ls.length) = hasSame ls l) := firstI_any (fun o => sameB o l) z84 ls
  obtain ⟨i, hi⟩ : ∃ i, i = firstI (fun j => sameB (ls.getD j z84) l) ls.length := ⟨_, rfl⟩
  have HI : Hid (i = firstI (fun j => sameB (ls.getD j z84) l) ls.length) := hi
  clear hi
  go_enter Try.func122, Try.ntmps122
  go_wp2_with (go_at_call 145; refine (index145_any _ _ _ _ _ _ hC hb).mono ?_; rw [← HI.out]; rintro e w1 ⟨rfl, hb1⟩)
  go_ret
  refine ⟨?_, hb1⟩
  rw [← HE.out, ← HI.out]
  rfl
end Go.Proofs.Ytkdlbocjgbmbdaa.Print

namespace Go.Proofs.Ytkdlbocjgbmbdaa.Print
open Go.RowKit Go.Shelf Go.Proofs.YtkdlbocjgbmbdaaW.PrintWords
set_option linter.unusedVariables false
attribute [local go_sem] Oper.semAt_some
attribute [local go_sem] wide_fn wide_asked
def signI (c : Int) : Bool := (decide (65 ≤ c) && decide (c ≤ 90)) || (decide (48 ≤ c) && decide (c ≤ 57))
def mayI (marks : Bool) (c : Int) : Bool := (marks && decide (c = 63)) || signI c
theorem sign_any (c : Int) (w : World) : Calls Try.prog 128 #[.int .i32 c] w fun e w' => e = .returned (.bool (signI c)) ∧ w' = w := by
  by_cases h1 : 65 ≤ c
  · by_cases h2 : c ≤ 90
    · go_enter Try.func128, Try.ntmps128
      go_wp2
      go_ret
      exact ⟨by simp [signI, h1, h2], rfl⟩
    · have h3 : 48 ≤ c := by omega
      have h4 : ¬ c ≤ 57 := by omega
      go_enter Try.func128, Try.ntmps128
      go_wp2
      go_ret
      exact ⟨by simp [signI, h1, h2, h3, h4], rfl⟩
  · by_cases h3 : 48 ≤ c
    · by_cases h4 : c ≤ 57
      · go_enter Try.func128, Try.ntmps128
        go_wp2
        go_ret
        exact ⟨by simp [signI, h3, h4], rfl⟩
      · go_enter Try.func128, Try.ntmps128
        go_wp2
        go_ret
        exact ⟨by simp [signI, h1, h3, h4]; omega, rfl⟩
    · go_enter Try.func128, Try.ntmps128
      go_wp2
      go_ret
      exact ⟨by simp [signI, h1, h3]; omega, rfl⟩
theorem mark_any (c : Int) (w : World) : Calls Try.prog 132 #[.int .i32 c] w fun e w' => e = .returned (.bool (mayI true c)) ∧ w' = w := by
  by_cases h1 : c = 63
  · subst h1
    go_enter Try.func132, Try.ntmps132
    go_wp2
    go_ret
    exact ⟨rfl, rfl⟩
  · have h2 : (c == 63) = false := by simpa using h1
    obtain ⟨s, hs⟩ : ∃ s, s = signI c := ⟨_, rfl⟩
    have HS : Hid (s = signI c) := hs
    clear hs
    have HM : Hid (mayI true c = s) := by show mayI true c = s; rw [HS.out]; simp [mayI, h1]
    clear h1
    go_enter Try.func132, Try.ntmps132
    go_wp2_with (go_at_call 128; refine (sign_any _ _).mono ?_; rw [← HS.out]; rintro e w1 ⟨rfl, rfl⟩)
    go_ret
    exact ⟨by rw [HM.out]; rfl, rfl⟩
/-- What a reader may read: its one field. -/
def mayFn (marks : Bool) : Nat := if marks then 132 else 128
def readV (marks : Bool) : Array Value := #[.func (.func (mayFn marks)) #[] #[]]
theorem reads1_any (marks : Bool) (r : Int) (Bx : Nat) (w : World) (hb : Blk w Bx 182 (readV marks)) :
    Calls Try.prog 148 #[.int .i32 r, .pointer (some ⟨Bx, 0, none⟩)] w fun e w' => e = .returned (.bool (!mayI marks r)) ∧ w' = w := by
  cases marks with
  | true =>
    have c0 : w.cell? ⟨Bx, 0, none⟩ = some (.func (.func 132) #[] #[]) := hb.cell 0 rfl
    obtain ⟨s, hs⟩ : ∃ s, s = mayI true r := ⟨_, rfl⟩
    have HS : Hid (s = mayI true r) := hs
    clear hs
    rw [← HS.out]
    go_enter Try.func148, Try.ntmps148
    go_wp2_with (go_at_call 132; refine (mark_any _ _).mono ?_; rw [← HS.out]; rintro e w1 ⟨rfl, rfl⟩)
    go_ret
    exact ⟨rfl, rfl⟩
  | false =>
    have c0 : w.cell? ⟨Bx, 0, none⟩ = some (.func (.func 128) #[] #[]) := hb.cell 0 rfl
    obtain ⟨s, hs⟩ : ∃ s, s = signI r := ⟨_, rfl⟩
    have HS : Hid (s = signI r) := hs
    clear hs
    have HM : Hid (mayI false r = s) := by show mayI false r = s; rw [HS.out]; simp [mayI]
    rw [HM.out]
    go_enter Try.func148, Try.ntmps148
    go_wp2_with (go_at_call 128; refine (sign_any _ _).mono ?_; rw [← HS.out]; rintro e w1 ⟨rfl, rfl⟩)
    go_ret
    exact ⟨rfl, rfl⟩
theorem mayI_high (marks : Bool) (r : Int) (h : 128 ≤ r) : mayI marks r = false := by
  have h1 : ¬ r = 63 := by omega
  have h2 : ¬ r ≤ 90 := by omega
  have h3 : ¬ r ≤ 57 := by omega
  simp [mayI, signI, h1, h2, h3]
/-- The first byte that may not be there; -1 if all may. -/
def badAtI (marks : Bool) (s : ByteArray) (j : Nat) : Bool := !mayI marks ((s.data.toList.getD j 0).toNat : Int)
theorem badAtI_at (marks : Bool) (s : ByteArray) (j : Nat) (h : j < s.size) : badAtI marks s j = !mayI marks ((s[j]'h).toNat : Int) := by
  have : s.data.toList.getD j 0 = s[j] := by
    rw [List.getD_eq_getElem?_getD, List.getElem?_eq_getElem (by simpa using h)]; rfl
  rw [badAtI, this]
def badI (marks : Bool) (s : ByteArray) : Int := firstI (badAtI marks s) s.size
theorem size_iterAt (w : World) (k : Nat) (s : ByteArray) (pos : Nat) : (w.iterAt k s pos).heap.size = w.heap.size := Lib.iterAt_size w k s pos
theorem below_iterAt {B : Nat} {W w : World} (h : Below B W w) (k : Nat) (s : ByteArray) (pos : Nat) (hk : B ≤ k) : Below B W (w.iterAt k s pos) :=
  ⟨h.os, h.tape, h.output, by rw [size_iterAt]; exact h.size, fun j hj => by rw [Lib.iterAt_other w k j s pos (by omega)]; exact h.block j hj⟩
theorem iterPos_at {w : World} {k : Nat} {s : ByteArray} {p : Nat} (h : w.heap[k]? = some (.stringIter s p)) : w.iterPos k = p := by simp [World.iterPos, h]
set_option maxRecDepth 100000 in
set_option maxHeartbeats 4000000 in
theorem indexFunc_any (marks : Bool) (s : ByteArray) (Bx : Nat) (w : World) (hb : Blk w Bx 182 (readV marks)) :
    Calls Try.prog 171 #[.string s, .func (.func 148) #[] #[.pointer (some ⟨Bx, 0, none⟩)], .bool true] w fun e w' => e = .returned (.int .i64 (badI marks s)) ∧ Below w.heap.size w w' := by
  go_enter Try.func171, Try.ntmps171
  go_wp2
  generalize hK : w.heap.size = K at *
  have h0 : (w.iter s 0).heap[K]? = some (.stringIter s 0) := by rw [← hK]; exact World.iter_heap w s 0
  have hB0 : Below K w (w.iter s 0) := by rw [← hK]; exact (Below.refl _ w).alloc (Nat.le_refl _) _
  have hbK : Bx < K := by rw [← hK]; exact hb.lt
  generalize w.iter s 0 = W0 at *
  go_loopw [8] (fun _ wr => ∃ pos : Nat, pos ≤ s.size ∧ wr.heap[K]? = some (.stringIter s pos) ∧ Hid (∀ j, j < pos → badAtI marks s j = false) ∧ Below K w wr) (fun _ wr => s.size - wr.iterPos K)
  · exact ⟨0, Nat.zero_le _, h0, fun j hj => absurd hj (by omega), hB0⟩
  · clear h0 hB0
    obtain ⟨pos, hpos, hk, hno, hB⟩ := hrel
    have hbr := hb.below hB hbK
    by_cases hlt : pos < s.size
    · have hit := iterPos_at hk
      by_cases hhi : s[pos].toNat < 128
      · have hnx := Lib.run_next_ascii_at (P := Try.prog) wr K s pos 0 hk hlt hhi
        have HB : Hid (badAtI marks s pos = !mayI marks (s[pos].toNat : Int)) := badAtI_at marks s pos hlt
        have hk' := Lib.iterAt_heap wr K s pos (pos + 1) hk
        have hB' := below_iterAt hB K s (pos + 1) (Nat.le_refl _)
        have hit' := iterPos_at hk'
        have hbr' := hb.below hB' hbK
        obtain ⟨m, hm⟩ : ∃ m, m = mayI marks (s[pos].toNat : Int) := ⟨_, rfl⟩
        have HM : Hid (m = mayI marks (s[pos].toNat : Int)) := hm
        have HP : Hid (s.size - (pos + 1) < s.size - pos) := by show s.size - (pos + 1) < s.size - pos; omega
        clear hm hhi hk
        rw [← hK] at hk'
        cases m with
        | true =>
          go_wp2_with (go_at_call 148; refine (reads1_any marks _ Bx _ hbr').mono ?_; rw [← HM.out]; rintro e w1 ⟨rfl, rfl⟩)
          refine ⟨⟨pos + 1, by omega, by rw [hK] at hk'; exact hk', fun j hj => ?_, hB'⟩, by rw [hit, hit']; exact HP.out⟩
          rcases Nat.lt_or_ge j pos with h | h
          · exact hno.out j h
          · obtain rfl : j = pos := by omega
            rw [HB.out, ← HM.out]; rfl
        | false =>
          go_wp2_with (go_at_call 148; refine (reads1_any marks _ Bx _ hbr').mono ?_; rw [← HM.out]; rintro e w1 ⟨rfl, rfl⟩)
          go_ret
          exact ⟨by rw [badI, firstI_yes (badAtI marks s) pos (by rw [HB.out, ← HM.out]; rfl) hno.out _ hlt]; rfl, by rw [hK]; exact hB'⟩
      · have hdh := decode_high s pos hlt (by omega)
        obtain ⟨r, hr⟩ : ∃ r, r = Utf8.decode s pos := ⟨_, rfl⟩
        have hnx := Lib.run_next_any_at (P := Try.prog) wr K s pos 0 hk hlt
        have HB : Hid (badAtI marks s pos = true) := by
          show badAtI marks s pos = true
          rw [badAtI_at marks s pos hlt, mayI_high _ _ (by omega)]; rfl
        have hB' := below_iterAt hB K s (pos + (Utf8.decode s pos).2) (Nat.le_refl _)
        have hbr' := hb.below hB' hbK
        rw [← hr] at hnx hB' hbr' hdh
        have HM : Hid (mayI marks (r.1 : Int) = false) := mayI_high _ _ (by omega)
        clear hr hdh hhi
        go_wp2_with (go_at_call 148; refine (reads1_any marks _ Bx _ hbr').mono ?_; rw [HM.out]; rintro e w1 ⟨rfl, rfl⟩)
        go_ret
        exact ⟨by rw [badI, firstI_yes (badAtI marks s) pos HB.out hno.out _ hlt]; rfl, by rw [hK]; exact hB'⟩
    · obtain rfl : pos = s.size := by omega
      have hnx := Lib.run_next_end_at (P := Try.prog) wr K s s.size 0 hk (by omega)
      go_wp2
      go_ret
      exact ⟨by rw [badI, firstI_no _ _ hno.out]; rfl, by rw [hK]; exact hB⟩
set_option maxHeartbeats 1000000 in
theorem indexFunc160_any (marks : Bool) (s : ByteArray) (Bx : Nat) (w : World) (hb : Blk w Bx 182 (readV marks)) :
    Calls Try.prog 160 #[.string s, .func (.func 148) #[] #[.pointer (some ⟨Bx, 0, none⟩)]] w fun e w' => e = .returned (.int .i64 (badI marks s)) ∧ Below w.heap.size w w' := by
  go_enter Try.func160, Try.ntmps160
  go_wp2_with (go_at_call 171; refine (indexFunc_any marks s Bx _ hb).mono ?_; rintro e w1 ⟨rfl, hB⟩)
  go_ret
  exact ⟨rfl, hB⟩
def fineB (marks : Bool) (s : ByteArray) : Bool := (List.range s.size).all fun j => mayI marks ((s.data.toList.getD j 0).toNat : Int)
theorem badI_fine (marks : Bool) (s : ByteArray) : decide (0 ≤ badI marks s) = !fineB marks s := by
  rw [Bool.eq_iff_iff, decide_eq_true_iff, badI, firstI_ge]
  simp [fineB, badAtI]
set_option maxHeartbeats 1000000 in
theorem contains147_any (marks : Bool) (s : ByteArray) (Bx : Nat) (w : World) (hb : Blk w Bx 182 (readV marks)) :
    Calls Try.prog 147 #[.string s, .func (.func 148) #[] #[.pointer (some ⟨Bx, 0, none⟩)]] w fun e w' => e = .returned (.bool (!fineB marks s)) ∧ Below w.heap.size w w' := by
  have HE : Hid (decide (0 ≤ badI marks s) = !fineB marks s) := badI_fine marks s
  obtain ⟨i, hi⟩ : ∃ i, i = badI marks s := ⟨_, rfl⟩
  have HI : Hid (i = badI marks s) := hi
  clear hi
  rw [← HE.out, ← HI.out]
  go_enter Try.func147, Try.ntmps147
  go_wp2_with (go_at_call 160; refine (indexFunc160_any marks s Bx _ hb).mono ?_; rw [← HI.out]; rintro e w1 ⟨rfl, hB⟩)
  go_ret
  exact ⟨rfl, hB⟩
def readsB (marks : Bool) (s : ByteArray) : Bool := inB (s.size : Int) 1 8 && fineB marks s
set_option maxHeartbeats 1000000 in
theorem reads_any (marks : Bool) (s : ByteArray) (w : World) :
    Calls Try.prog 129 #[.agg #[.func (.func (mayFn marks)) #[] #[]], .string s] w fun e w' => e = .returned (.bool (readsB marks s)) ∧ Below w.heap.size w w' := by
  have hmf : ∀ (fn : Fn) (first cap : Array Value) (w : World), (Instr.makeFunc fn first cap).run Try.prog w = .ok (.func fn first cap) w := fun _ _ _ _ => rfl
  obtain ⟨f, hf⟩ : ∃ f, f = mayFn marks := ⟨_, rfl⟩
  have hb := (blk_new w 182 (readV marks))
  have hB0 : Below w.heap.size w (w.alloc (.cells (readV marks) 182)) := below_alloc (Below.refl _ _) _
  cases h1 : inB (s.size : Int) 1 8 with
  | false =>
    go_enter Try.func129, Try.ntmps129
    go_wp2_with (go_at_call 81; refine (in_any _ _ _ _).mono ?_; rw [h1]; rintro e w1 ⟨rfl, rfl⟩)
    go_ret
    exact ⟨by rw [readsB, h1]; rfl, hB0⟩
  | true =>
    obtain ⟨g, hg⟩ : ∃ g, g = fineB marks s := ⟨_, rfl⟩
    have HG : Hid (g = fineB marks s) := hg
    clear hg
    go_enter Try.func129, Try.ntmps129
    go_wp2_with (first
      | (go_at_call 81; refine (in_any _ _ _ _).mono ?_; rw [h1]; rintro e w1 ⟨rfl, rfl⟩)
      | (go_at_call 147; refine (contains147_any marks s _ _ hb).mono ?_; rw [← HG.out]; rintro e w1 ⟨rfl, hB⟩))
    go_ret
    exact ⟨by rw [readsB, h1, ← HG.out]; simp, hB0.trans (hB.mono hB0.size)⟩
end Go.Proofs.Ytkdlbocjgbmbdaa.Print

namespace Go.Proofs.Ytkdlbocjgbmbdaa.Print
open Go.RowKit Go.Shelf Go.Proofs.YtkdlbocjgbmbdaaW.PrintWords
set_option linter.unusedVariables false
attribute [local go_sem] Oper.semAt_some
attribute [local go_sem] wide_fn wide_asked
def tagV (l : S77) : Array Value := #[.string l.f0, .int .i64 l.f1]
def sameC (o l : S77) : Bool := decide (o.f0.toList = l.f0.toList)
set_option maxRecDepth 100000 in
set_option maxHeartbeats 2000000 in
theorem goods1_any (o l : S77) (Bx : Nat) (w : World) (hb : Blk w Bx 77 (tagV l)) :
    Calls Try.prog 131 #[.agg #[.string o.f0, .int .i64 o.f1], .pointer (some ⟨Bx, 0, none⟩)] w fun e w' => e = .returned (.bool (sameC o l)) ∧ Below w.heap.size w w' := by
  have hlt := hb.lt
  have c0 := (hb.alloc (.cells #[.string o.f0, .int .i64 o.f1] 77)).cell 0 rfl
  simp only [tagV] at c0
  have hB := (Below.refl w.heap.size w).alloc (Nat.le_refl _) (.cells #[.string o.f0, .int .i64 o.f1] 77)
  clear hb
  by_cases h1 : o.f0.toList = l.f0.toList
  all_goals
    go_enter Try.func131, Try.ntmps131
    go_wp2
    go_ret
    exact ⟨by simp [sameC, h1], hB⟩
theorem rd_T77_at (xs : List S77) (k : Nat) (h : k < xs.length) : rd_T77 xs (k : Int) = xs[k] := by
  simp [rd_T77, List.getD_eq_getElem?_getD, List.getElem?_eq_getElem h]
set_option maxRecDepth 100000 in
set_option maxHeartbeats 4000000 in
theorem index149_any (A : Option Addr) (c : Nat) (ls : List S77) (l : S77) (Bx : Nat) (w : World) (hC : Kd.C k77 w A ls.length ls) (hb : Blk w Bx 77 (tagV l)) :
    Calls Try.prog 149 #[.slice A ls.length c, .func (.func 131) #[] #[.pointer (some ⟨Bx, 0, none⟩)]] w fun e w' => e = .returned (.int .i64 (firstI (fun j => sameC (ls.getD j z77) l) ls.length)) ∧ Below w.heap.size w w' := by
  have hmax := Kd.C_max hC
  go_enter Try.func149, Try.ntmps149
  go_wp2
  go_loopw [8] (fun i wr => ∃ k : Nat, k ≤ ls.length ∧ i = .int .i64 k ∧ Hid (∀ j, j < k → sameC (ls.getD j z77) l = false) ∧ Below w.heap.size w wr) (fun i _ => ls.length - (intOf i).toNat)
  case atStart => exact ⟨0, Nat.zero_le _, rfl, fun j hj => absurd hj (by omega), Below.refl _ _⟩
  case round =>
    obtain ⟨k, hk, rfl, hno, hnx⟩ := hrel
    by_cases hlt : k < ls.length
    · obtain ⟨ad, hA, c0, c1⟩ := at_T77 (Kd.C_below hC hnx) k (by omega) (by omega)
      subst hA
      simp only [Int.toNat_natCast] at c0 c1
      rw [rd_T77_at ls k hlt] at c0 c1
      obtain ⟨d, hd⟩ : ∃ d, d = ls[k] := ⟨_, rfl⟩
      rw [← hd] at c0 c1
      have HD : Hid (d = ls[k]) := hd
      clear hd
      have hbr := hb.below hnx hb.lt
      have hg0 : ls.getD k z77 = d := by rw [HD.out]; simp [List.getD_eq_getElem?_getD, List.getElem?_eq_getElem hlt]
      have HG : Hid (ls.getD k z77 = d) := hg0
      clear hg0
      cases hs : sameC d l
      all_goals go_wp2_with (go_at_call 131; refine (goods1_any _ _ _ _ hbr).mono ?_; rintro e w1 ⟨rfl, hb1⟩)
      · go_roundw
        case rel => exact ⟨k + 1, by omega, by go_num, fun j hj => by
          rcases Nat.lt_or_ge j k with h | h
          · exact hno.out j h
          · obtain rfl : j = k := by omega
            rw [HG.out]; exact hs, hnx.trans (hb1.mono hnx.size)⟩
        case measure => simp [intOf]; omega
      · go_ret
        exact ⟨by rw [firstI_yes (fun j => sameC (ls.getD j z77) l) k (by rw [HG.out]; exact hs) hno.out _ hlt]; rfl, hnx.trans (hb1.mono hnx.size)⟩
    · obtain rfl : k = ls.length := by omega
      go_wp2
      go_ret
      exact ⟨by rw [firstI_no (fun j => sameC (ls.getD j z77) l) _ hno.out]; rfl, hnx⟩
def hasCode (ls : List S77) (l : S77) : Bool := ls.any fun o => sameC o l
set_option maxHeartbeats 1000000 in
theorem contains130_any (A : Option Addr) (n c : Nat) (ls : List S77) (l : S77) (Bx : Nat) (w : World) (hC : Kd.C k77 w A n ls) (hb : Blk w Bx 77 (tagV l)) :
    Calls Try.prog 130 #[.slice A n c, .func (.func 131) #[] #[.pointer (some ⟨Bx, 0, none⟩)]] w fun e w' => e = .returned (.bool (hasCode ls l)) ∧ Below w.heap.size w w' := by
  obtain rfl : ls.length = n := Kd.C_len hC
  have HE : Hid (decide (0 ≤ firstI (fun j => sameC (ls.getD j z77) l) ls.length) = hasCode ls l) := firstI_any (fun o => sameC o l) z77 ls
  obtain ⟨i, hi⟩ : ∃ i, i = firstI (fun j => sameC (ls.getD j z77) l) ls.length := ⟨_, rfl⟩
  have HI : Hid (i = firstI (fun j => sameC (ls.getD j z77) l) ls.length) := hi
  clear hi
  go_enter Try.func130, Try.ntmps130
  go_wp2_with (go_at_call 149; refine (index149_any _ _ _ _ _ _ hC hb).mono ?_; rw [← HI.out]; rintro e w1 ⟨rfl, hb1⟩)
  go_ret
  refine ⟨?_, hb1⟩
  rw [← HE.out, ← HI.out]
  rfl
end Go.Proofs.Ytkdlbocjgbmbdaa.Print

namespace Go.Proofs.Ytkdlbocjgbmbdaa.Print
open Go.RowKit Go.Shelf Go.Proofs.YtkdlbocjgbmbdaaW.PrintWords
set_option linter.unusedVariables false
attribute [local go_sem] Oper.semAt_some
attribute [local go_sem] wide_fn wide_asked
def byteV (l : List UInt8) : Array Value := (l.map fun b => Value.int .u8 (b.toNat : Int)).toArray
def Bts (W : World) (K : Nat) (l : List UInt8) : Prop := ∃ (pad : Array Value) (m : Nat), l.length ≤ m ∧ W.heap[K]? = some (.cells (byteV l ++ pad) 5 (m, m + 1))
theorem Bts.lt {W : World} {K : Nat} {l : List UInt8} (h : Bts W K l) : K < W.heap.size := by
  obtain ⟨pad, m, hm, h⟩ := h
  exact (Array.getElem?_eq_some_iff.1 h).1
theorem Bts.cell {W : World} {K : Nat} {l : List UInt8} (h : Bts W K l) (i : Nat) (hi : i < l.length) : W.cell? ⟨K, i, none⟩ = some (.int .u8 ((l.getD i 0).toNat : Int)) := by
  obtain ⟨pad, m, hm, h⟩ := h
  have hs : i < (byteV l).size := by simpa [byteV] using hi
  simp only [World.cell?, h]
  rw [Array.getElem?_append_left hs]
  simp [byteV, List.getD_eq_getElem?_getD, List.getElem?_eq_getElem hi]
theorem Bts.frozen {W : World} {K : Nat} {l : List UInt8} (h : Bts W K l) (i : Nat) (hi : i < l.length) : W.frozen? ⟨K, i, none⟩ = false := by
  obtain ⟨pad, m, hm, h⟩ := h
  simp only [World.frozen?, h]
  simp
  omega
theorem Bts.set {W : World} {K : Nat} {l : List UInt8} (h : Bts W K l) (i : Nat) (hi : i < l.length) (b : UInt8) : Bts (W.setCell ⟨K, i, none⟩ (.int .u8 (b.toNat : Int))) K (l.set i b) := by
  obtain ⟨pad, m, hm, h⟩ := h
  refine ⟨pad, m, by simpa using hm, ?_⟩
  have hs : i < (byteV l).size := by simpa [byteV] using hi
  have hK : K < W.heap.size := (Array.getElem?_eq_some_iff.1 h).1
  have hg : W.heap[K] = .cells (byteV l ++ pad) 5 (m, m + 1) := (Array.getElem?_eq_some_iff.1 h).2
  have e1 : (byteV l ++ pad).setIfInBounds i (.int .u8 (b.toNat : Int)) = byteV (l.set i b) ++ pad := by
    rw [Array.setIfInBounds_append_left hs]
    congr 1
    simp [byteV, List.map_set]
  unfold World.setCell
  simp only [Option.isSome_none, Bool.false_eq_true, if_false]
  rw [Array.getElem?_modify, if_pos rfl, h]
  simp only [Option.map_some, e1]
theorem Bts.drewN {W : World} {K : Nat} {l : List UInt8} (h : Bts W K l) (n : Nat) : Bts (W.drewN n) K l := h
theorem bts_new (W : World) (s : ByteArray) : Bts (Lib.bytesWorld W 5 s) W.heap.size s.data.toList := by
  have e : Lib.bytesCells W 5 s = byteV s.data.toList ++ Array.replicate (grownCap W s.size 0 5 - s.size) (.int .u8 0) := by
    unfold Lib.bytesCells byteV
    congr 1
    apply Array.ext'
    simp
  refine ⟨Array.replicate (grownCap W s.size 0 5 - s.size) (.int .u8 0), (Lib.bytesCells W 5 s).size, ?_, by rw [← e]; exact Lib.bytesWorld_at_new W 5 s⟩
  simp [Lib.bytesCells]
theorem below_bytes (W : World) (s : ByteArray) : Below W.heap.size W (Lib.bytesWorld W 5 s) := by
  have hf : ∀ (w : World) (a : Addr) (n : Nat), (w.freeze a n).os = w.os ∧ (w.freeze a n).tape = w.tape ∧ (w.freeze a n).output = w.output := fun w a n => by
    unfold World.freeze
    split <;> exact ⟨rfl, rfl, rfl⟩
  exact ⟨(hf _ _ _).1, (hf _ _ _).2.1, (hf _ _ _).2.2, by rw [Lib.bytesWorld_size]; omega, fun j hj => Lib.bytesWorld_at_old W 5 s j hj⟩
theorem addr0 (K j : Nat) : (⟨K, 0, none⟩ : Addr).add j = ⟨K, j, none⟩ := by rcases j with _ | j <;> simp [Addr.add]
def mergeB (a b : UInt8) : Option UInt8 := if b = 63 ∨ b = a then some a else if a = 63 then some b else none
def mergeK (s : List UInt8) (out : List UInt8) : Nat → Option (List UInt8)
  | 0 => some out
  | k + 1 => (mergeK s out k).bind fun o => (mergeB (o.getD k 0) (s.getD k 0)).map fun x => o.set k x
def mergeR (reads : List ByteArray) (out : List UInt8) : Nat → Option (List UInt8)
  | 0 => some out
  | k + 1 => (mergeR reads out k).bind fun o => mergeK (reads.getD k ByteArray.empty).data.toList o (reads.getD k ByteArray.empty).size
def mergedL (reads : List ByteArray) : Option (List UInt8) := mergeR reads (reads.getD 0 ByteArray.empty).data.toList reads.length
def mergedS (reads : List ByteArray) : ByteArray × Bool := match mergedL reads with | some l => (⟨l.toArray⟩, true) | none => (⟨#[]⟩, false)
theorem mergeK_len (s out : List UInt8) : ∀ k o, mergeK s out k = some o → o.length = out.length
  | 0, o, h => by cases h; rfl
  | k + 1, o, h => by
    simp only [mergeK, Option.bind_eq_some_iff, Option.map_eq_some_iff] at h
    obtain ⟨o', h1, x, h2, rfl⟩ := h
    rw [List.length_set, mergeK_len s out k o' h1]
theorem mergeR_len (reads : List ByteArray) (out : List UInt8) : ∀ k o, mergeR reads out k = some o → o.length = out.length
  | 0, o, h => by cases h; rfl
  | k + 1, o, h => by
    simp only [mergeR, Option.bind_eq_some_iff] at h
    obtain ⟨o', h1, h2⟩ := h
    rw [mergeK_len _ _ _ _ h2, mergeR_len reads out k o' h1]
theorem mergeK_none (s out : List UInt8) (k : Nat) (h : mergeK s out k = none) : ∀ n, k ≤ n → mergeK s out n = none
  | 0, hn => by obtain rfl : k = 0 := by omega
                exact h
  | n + 1, hn => by
    rcases Nat.lt_or_ge n k with h' | h'
    · obtain rfl : k = n + 1 := by omega
      exact h
    · rw [mergeK, mergeK_none s out k h n h']; rfl
theorem mergeR_none (reads : List ByteArray) (out : List UInt8) (k : Nat) (h : mergeR reads out k = none) : ∀ n, k ≤ n → mergeR reads out n = none
  | 0, hn => by obtain rfl : k = 0 := by omega
                exact h
  | n + 1, hn => by
    rcases Nat.lt_or_ge n k with h' | h'
    · obtain rfl : k = n + 1 := by omega
      exact h
    · rw [mergeR, mergeR_none reads out k h n h']; rfl
set_option maxRecDepth 100000 in
set_option maxHeartbeats 4000000 in
theorem merged_any (A : Option Addr) (c : Nat) (rs : List ByteArray) (n : Nat) (w : World) (hC : Kd.C Kd.string w A rs.length rs) (hne : 0 < rs.length) (hn : n ≤ 8) (hall : ∀ r ∈ rs, r.size = n) :
    Calls Try.prog 94 #[.slice A rs.length c] w fun e w' => e = .returned (.tuple #[.string (mergedS rs).1, .bool (mergedS rs).2]) ∧ Below w.heap.size w w' := by
  have hmax := Kd.C_max hC
  have hcv := fun (w : World) (s : ByteArray) => Lib.run_convert_string_bytes (P := Try.prog) w 9 144 5 s Try.underlying9 Try.underlying144 Try.underlying5
  obtain ⟨ad, hA, c0⟩ := Kd.at_string hC 0 (by omega) (by omega)
  subst hA
  have e0 : ad.add 0 = ad := by cases ad; rfl
  simp only [Int.toNat_zero] at c0
  rw [e0] at c0
  clear e0
  obtain ⟨r0, hr0⟩ : ∃ r0, r0 = rdOf ByteArray.empty rs 0 := ⟨_, rfl⟩
  rw [← hr0] at c0
  have H0 : Hid (r0 = rdOf ByteArray.empty rs 0) := hr0
  clear hr0
  go_enter Try.func94, Try.ntmps94
  go_wp2
  have B0 := bts_new w r0
  have L0 := below_bytes w r0
  generalize hK : w.heap.size = K at *
  generalize Lib.bytesWorld w 5 r0 = W0 at *
  generalize grownCap w r0.size 0 5 = C0 at *
  have hr0m : r0 = rs[0] := by rw [H0.out]; simp [rdOf, List.getD_eq_getElem?_getD, List.getElem?_eq_getElem hne]
  have hsz : r0.size = n := by rw [hr0m]; exact hall _ (List.getElem_mem _)
  have HG0 : Hid (rs.getD 0 ByteArray.empty = r0) := by show _ = _; rw [hr0m]; simp [List.getD_eq_getElem?_getD, List.getElem?_eq_getElem hne]
  clear hr0m H0 c0 hcv
  subst hsz
  go_loopw [14] (fun i wr => ∃ (k : Nat) (o : List UInt8), k ≤ rs.length ∧ i = .int .i64 k ∧ Hid (mergeR rs r0.data.toList k = some o) ∧ Bts wr K o ∧ Below K w wr) (fun i _ => rs.length - (intOf i).toNat)
  · exact ⟨0, _, Nat.zero_le _, rfl, rfl, B0, L0⟩
  · clear B0 L0
    obtain ⟨k, o, hk, rfl, HM, hB, hL⟩ := hrel
    have hol : o.length = r0.size := by rw [mergeR_len _ _ _ _ HM.out]; simp
    by_cases hlt : k < rs.length
    · obtain ⟨ad', hA, c0⟩ := Kd.at_string (Kd.C_below hC (by rw [← hK] at hL; exact hL)) k (by omega) (by omega)
      obtain rfl : ad = ad' := by injection hA
      clear hA
      simp only [Int.toNat_natCast] at c0
      have hrk : rdOf ByteArray.empty rs (k : Int) = rs[k] := by simp [rdOf, List.getD_eq_getElem?_getD, List.getElem?_eq_getElem hlt]
      have hsk : rs[k].size = r0.size := hall _ (List.getElem_mem _)
      have hgk : rs.getD k ByteArray.empty = rs[k] := by simp [List.getD_eq_getElem?_getD, List.getElem?_eq_getElem hlt]
      rw [hrk] at c0
      clear hrk
      generalize rs[k] = s at *
      have HGK : Hid (rs.getD k ByteArray.empty = s) := hgk
      clear hgk
      have HS : Hid (s.size = r0.size) := hsk
      have hs8 : s.size ≤ 8 := by omega
      clear hsk
      go_wp2
      obtain ⟨wo, rfl⟩ : ∃ wo : World, wo = wr := ⟨_, rfl⟩
      go_loopw [20] (fun i wr => ∃ (j : Nat) (p : List UInt8), j ≤ s.size ∧ i = .int .i64 j ∧ Hid (mergeK s.data.toList o j = some p) ∧ Bts wr K p ∧ Below K w wr) (fun i _ => s.size - (intOf i).toNat)
      · exact ⟨0, _, Nat.zero_le _, rfl, rfl, hB, hL⟩
      · clear c0 hB hL
        obtain ⟨j, p, hj, rfl, HP, hB, hL⟩ := hrel
        have hpl : p.length = r0.size := by rw [mergeK_len _ _ _ _ HP.out]; exact hol
        by_cases hjl : j < s.size
        · have hss := HS.out
          have cj := hB.cell j (by omega)
          have fj := hB.frozen j (by omega)
          have hjr : (j : Int) < (r0.size : Int) := by omega
          have hbj : s.data.toList.getD j 0 = s[j] := by rw [List.getD_eq_getElem?_getD, List.getElem?_eq_getElem (by simpa using hjl)]; rfl
          obtain ⟨x, hx⟩ : ∃ x, x = p.getD j 0 := ⟨_, rfl⟩
          rw [← hx] at cj
          have HX : Hid (x = p.getD j 0) := hx
          have HBJ : Hid (s.data.toList.getD j 0 = s[j]) := hbj
          have HSTEP : Hid (mergeK s.data.toList o (j + 1) = (mergeB x s[j]).map fun y => p.set j y) := by
            show _ = _
            rw [mergeK, HP.out]
            simp only [Option.bind_some]
            rw [← hx, hbj]
          have HSELF : Hid (p.set j x = p) := by
            show _ = _
            rw [hx, List.getD_eq_getElem?_getD, List.getElem?_eq_getElem (by omega : j < p.length)]
            simp
          have hmb1 : ((s[j].toNat : Int) == 63) = true → mergeB x s[j] = some x := fun g => by
            have : s[j] = 63 := by apply UInt8.toNat_inj.1; simp at g; simpa using (by omega : s[j].toNat = 63)
            rw [mergeB, if_pos (Or.inl this)]
          have hmb2 : ((s[j].toNat : Int) == (x.toNat : Int)) = true → mergeB x s[j] = some x := fun g => by
            have : s[j] = x := by apply UInt8.toNat_inj.1; simp at g; omega
            rw [mergeB, if_pos (Or.inr this)]
          have hmb3 : ((s[j].toNat : Int) == 63) = false → ((s[j].toNat : Int) == (x.toNat : Int)) = false → ((x.toNat : Int) == 63) = true → mergeB x s[j] = some s[j] := fun g1 g2 g3 => by
            rw [mergeB, if_neg, if_pos]
            · apply UInt8.toNat_inj.1; simp at g3; simpa using (by omega : x.toNat = 63)
            · rintro (h | h)
              · rw [h] at g1; simp at g1
              · rw [h] at g2; simp at g2
          have hmb4 : ((s[j].toNat : Int) == 63) = false → ((s[j].toNat : Int) == (x.toNat : Int)) = false → ((x.toNat : Int) == 63) = false → mergeB x s[j] = none := fun g1 g2 g3 => by
            rw [mergeB, if_neg, if_neg]
            · intro h; rw [h] at g3; simp at g3
            · rintro (h | h)
              · rw [h] at g1; simp at g1
              · rw [h] at g2; simp at g2
          have HM1 := Lib.hid hmb1
          have HM2 := Lib.hid hmb2
          have HM3 := Lib.hid hmb3
          have HM4 := Lib.hid hmb4
          clear hx hbj hss hmb1 hmb2 hmb3 hmb4
          cases g1 : ((s[j].toNat : Int) == 63) with
          | true =>
            have HE : Hid (mergeK s.data.toList o (j + 1) = some p) := by show _ = _; rw [HSTEP.out, HM1.out g1, Option.map_some, HSELF.out]
            clear HM1 HM2 HM3 HM4
            go_wp2
            go_quiet (fail)
            go_wp2
            exact ⟨⟨j + 1, p, by omega, by push_cast; rfl, HE, hB.drewN _, below_drewN' hL _⟩, by simp [intOf]; omega⟩
          | false =>
            cases g2 : ((s[j].toNat : Int) == (x.toNat : Int)) with
            | true =>
              have HE : Hid (mergeK s.data.toList o (j + 1) = some p) := by show _ = _; rw [HSTEP.out, HM2.out g2, Option.map_some, HSELF.out]
              clear HM1 HM2 HM3 HM4
              go_wp2
              go_quiet (fail)
              go_wp2
              exact ⟨⟨j + 1, p, by omega, by push_cast; rfl, HE, hB.drewN _, below_drewN' hL _⟩, by simp [intOf]; omega⟩
            | false =>
              cases g3 : ((x.toNat : Int) == 63) with
              | true =>
                have HE : Hid (mergeK s.data.toList o (j + 1) = some (p.set j s[j])) := by show _ = _; rw [HSTEP.out, HM3.out g1 g2 g3, Option.map_some]
                clear HM1 HM2 HM3 HM4
                go_wp2
                go_quiet (fail)
                go_wp2
                exact ⟨⟨j + 1, _, by omega, by push_cast; rfl, HE, (hB.drewN _).set j (by omega) s[j], (below_drewN' hL _).setCell (p := ⟨K, j, none⟩) (Nat.le_refl _) _⟩, by simp [intOf]; omega⟩
              | false =>
                have HE : Hid (mergedL rs = none) := by
                  show _ = _
                  have h1 : mergeK s.data.toList o (j + 1) = none := by rw [HSTEP.out, HM4.out g1 g2 g3]; rfl
                  have h2 := mergeK_none _ _ _ h1 s.size (by omega)
                  have h3 : mergeR rs r0.data.toList (k + 1) = none := by rw [mergeR, HM.out, Option.bind_some, HGK.out]; exact h2
                  rw [mergedL, HG0.out]
                  exact mergeR_none _ _ _ h3 _ (by omega)
                clear HM1 HM2 HM3 HM4
                go_wp2
                go_quiet (fail)
                go_wp2
                go_ret2
                exact ⟨by rw [mergedS, HE.out]; rfl, by rw [hK]; exact below_drewN' hL _⟩
        · obtain rfl : j = s.size := by omega
          have HE : Hid (mergeR rs r0.data.toList (k + 1) = some p) := by
            show _ = _
            rw [mergeR, HM.out, Option.bind_some, HGK.out]
            exact HP.out
          go_wp2
          exact ⟨⟨k + 1, p, by omega, by push_cast; rfl, HE, hB, hL⟩, by simp [intOf]; omega⟩
    · obtain rfl : k = rs.length := by omega
      have HE : Hid (mergedL rs = some o) := by show _ = _; rw [mergedL, HG0.out]; exact HM.out
      have hcv : (convert 144 9 (.slice (some ⟨K, 0, none⟩) o.length C0)).run Try.prog wr = .ok (.string ⟨o.toArray⟩) wr :=
        run_convert_bytes_back wr 144 9 5 ⟨K, 0, none⟩ C0 o Try.underlying144 Try.underlying5 Try.underlying9 (fun j hj => by
          have := hB.cell j hj
          rw [List.getD_eq_getElem?_getD, List.getElem?_eq_getElem hj] at this
          rw [addr0]; simpa using this)
      rw [hol] at hcv
      go_wp2
      go_ret2
      exact ⟨by rw [mergedS, HE.out]; rfl, by rw [hK]; exact hL⟩
end Go.Proofs.Ytkdlbocjgbmbdaa.Print

namespace Go.Proofs.Ytkdlbocjgbmbdaa.Print
open Go.RowKit Go.Shelf Go.Proofs.YtkdlbocjgbmbdaaW.PrintWords
set_option linter.unusedVariables false
attribute [local go_sem] Oper.semAt_some
attribute [local go_sem] wide_fn wide_asked
def furC (xs : List Bool) (a b : Nat) (ys : List Bool) : Nat → List Bool
  | 0 => ys
  | k + 1 => (furC xs a b ys k).set (a * 8 + k) ((furC xs a b ys k).getD (a * 8 + k) false || (xs.getD (a * 8 + b) false && xs.getD (b * 8 + k) false))
def furB (xs : List Bool) (a : Nat) (ys : List Bool) : Nat → List Bool
  | 0 => ys
  | k + 1 => furC xs a k (furB xs a ys k) 8
def furA (xs : List Bool) (ys : List Bool) : Nat → List Bool
  | 0 => ys
  | k + 1 => furB xs k (furA xs ys k) 8
def furtherL (xs : List Bool) : List Bool := furA xs xs 8
theorem furC_len (xs : List Bool) (a b : Nat) (ys : List Bool) : ∀ k, (furC xs a b ys k).length = ys.length
  | 0 => rfl
  | k + 1 => by rw [furC, List.length_set, furC_len]
theorem furB_len (xs : List Bool) (a : Nat) (ys : List Bool) : ∀ k, (furB xs a ys k).length = ys.length
  | 0 => rfl
  | k + 1 => by rw [furB, furC_len, furB_len]
theorem furA_len (xs : List Bool) (ys : List Bool) : ∀ k, (furA xs ys k).length = ys.length
  | 0 => rfl
  | k + 1 => by rw [furA, furB_len, furA_len]
def zeros64 : List Bool := List.replicate 64 false
theorem alloc134 (o : Oper) (ρ : Operand → Value) (ho : o.op = .alloc 134) (W : World) : (execOp ρ o).run Try.prog W = .ok (.value (.pointer (some ⟨W.heap.size, 0, none⟩))) (W.alloc (.cells (boolCells zeros64) 134)) := by
  unfold execOp
  rw [ho]
  kernel_rfl
theorem info134 : (Try.prog.info? 134).map (·.size) = some 64 := by kernel_rfl
set_option maxRecDepth 100000 in
set_option maxHeartbeats 8000000 in
theorem further_any (xs : List Bool) (w : World) (hx : xs.length = 64) :
    Calls Try.prog 126 #[.agg (boolCells xs)] w fun e w' =>
      e = .returned (.agg (boolCells (furtherL xs))) ∧ Below w.heap.size w w' := by
  have HI : ∀ ys : List Bool, Hid (ys.length = 64 → (Try.prog.info? 134).map (·.size) = some (boolCells ys).size) := fun ys h => by rw [boolCells_size, h]; exact info134
  have HX : Hid (xs.length = 64) := hx
  clear hx
  go_enter Try.func126, Try.ntmps126
  go_wp2_with (first
    | ((with_reducible refine gate_dst (N := 2) rfl ?_); refine box_event rfl (N := 2) rfl (cs := boolCells zeros64) (t := 134) (alloc134 _ _ rfl _) ?_; intro g2 hg2 w2 hb2 hB2; go_loud (have x2 : Blk w2 w.heap.size 134 (boolCells xs) := (blk_new w 134 _).below hB2 (by simp); have G2 : w.heap.size < g2 := (by rw [hg2]; simp); clear hg2; have B2 : Below w.heap.size w w2 := (below_alloc' (Below.refl _ w) _).trans (hB2.mono (by simp)); clear hB2; have z2 : Blk w2 g2 134 (boolCells zeros64) := hb2; clear hb2))
    | ((with_reducible refine gate_dst (N := 7) rfl ?_); go_loud (refine ev_load_row (N := 7) rfl rfl 134 _ rfl w.heap.size rfl (t := 134) (cs := boolCells xs) x2 Try.underlying134 ((HI xs).out HX.out) ?_))
    | ((with_reducible refine gate_dst (N := 3) rfl ?_); refine box_event rfl (N := 3) rfl (cs := boolCells zeros64) (t := 134) (alloc134 _ _ rfl _) ?_; intro g3 hg3 w3 hb3 hB3; have x3 := x2.below hB3 x2.lt; have z3 := z2.below hB3 z2.lt; have B3 : Below w.heap.size w w3 := B2.trans (hB3.mono B2.size); have y3 : Blk w3 g3 134 (boolCells zeros64) := hb3; have G3 : w2.heap.size ≤ g3 := Nat.le_of_eq hg3.symm; have l2 := x2.lt; have l2' := z2.lt; clear hB3 hb3 hg3 x2 z2 B2)
    | ((with_reducible refine gate_store (t := 134) (p := 3) rfl ?_); refine ev_store_row rfl 134 _ _ rfl rfl g3 (boolCells xs) rfl rfl y3 ((HI xs).out HX.out) (by rw [boolCells_size, boolCells_size, HX.out]; rfl) (boolCells_one _) ?_; intro w4 y4 hg4; have x4 := x3.grown hg4 (by simp; omega); have z4 := z3.grown hg4 (by simp; omega); have B4 : Below w.heap.size w w4 := B3.grown hg4 B3.size (by intro k e; cases e; have := B3.size; omega); clear hg4 x3 z3 y3 B3))
  have G3' : w.heap.size < g3 := by omega
  have G3'' : g2 < g3 := by omega
  clear l2 l2' G3
  go_loopw [8] (fun i wr => ∃ k : Nat, k ≤ 8 ∧ i = .int .i64 k ∧ Blk wr w.heap.size 134 (boolCells xs) ∧ Blk wr g2 134 (boolCells zeros64) ∧ Blk wr g3 134 (boolCells (furA xs xs k)) ∧ Below w.heap.size w wr) (fun i _ => 8 - (intOf i).toNat)
  case atStart => exact ⟨0, by omega, rfl, x4, z4, y4, B4⟩
  case round =>
    clear x4 z4 y4 B4
    obtain ⟨ka, hka, rfl, xa, za, ya, Ba⟩ := hrel
    obtain ⟨wa, rfl⟩ : ∃ wa : World, wa = wr := ⟨_, rfl⟩
    by_cases hla : ka < 8
    · go_wp2
      go_loopw [11] (fun i wr => ∃ k : Nat, k ≤ 8 ∧ i = .int .i64 k ∧ Blk wr w.heap.size 134 (boolCells xs) ∧ Blk wr g2 134 (boolCells zeros64) ∧ Blk wr g3 134 (boolCells (furB xs ka (furA xs xs ka) k)) ∧ Below w.heap.size w wr) (fun i _ => 8 - (intOf i).toNat)
      case atStart => exact ⟨0, by omega, rfl, xa, za, ya, Ba⟩
      case round =>
        clear xa za ya Ba
        obtain ⟨kb, hkb, rfl, xb, zb, yb, Bb⟩ := hrel
        obtain ⟨wb, rfl⟩ : ∃ wb : World, wb = wr := ⟨_, rfl⟩
        by_cases hlb : kb < 8
        · go_wp2
          go_loopw [14] (fun i wr => ∃ k : Nat, k ≤ 8 ∧ i = .int .i64 k ∧ Blk wr w.heap.size 134 (boolCells xs) ∧ Blk wr g2 134 (boolCells zeros64) ∧ Blk wr g3 134 (boolCells (furC xs ka kb (furB xs ka (furA xs xs ka) kb) k)) ∧ Below w.heap.size w wr) (fun i _ => 8 - (intOf i).toNat)
          case atStart => exact ⟨0, by omega, rfl, xb, zb, yb, Bb⟩
          case round =>
            clear xb zb yb Bb
            obtain ⟨kc, hkc, rfl, xc, zc, yc, Bc⟩ := hrel
            by_cases hlc : kc < 8
            · obtain ⟨Z, hZ⟩ : ∃ Z, Z = furC xs ka kb (furB xs ka (furA xs xs ka) kb) kc := ⟨_, rfl⟩
              have HZl : Hid (Z.length = 64) := by
                show Z.length = 64
                rw [hZ, furC_len, furB_len, furA_len, HX.out]
              have HZ : Hid (Z = furC xs ka kb (furB xs ka (furA xs xs ka) kb) kc) := hZ
              rw [← hZ] at yc
              clear hZ
              have HS : Hid (furC xs ka kb (furB xs ka (furA xs xs ka) kb) (kc + 1) = Z.set (ka * 8 + kc) (Z.getD (ka * 8 + kc) false || (xs.getD (ka * 8 + kb) false && xs.getD (kb * 8 + kc) false))) := by
                show furC xs ka kb (furB xs ka (furA xs xs ka) kb) (kc + 1) = _
                rw [furC, ← HZ.out]
              cases e1 : Z.getD (ka * 8 + kc) false <;> cases e2 : xs.getD (ka * 8 + kb) false <;> cases e3 : xs.getD (kb * 8 + kc) false
              all_goals
                rw [e1, e2, e3] at HS
                go_wp2
                refine wp_region_quiet_tail 22 (by kernel_rfl) (by kernel_rfl) ?_
                simp only [List.take_succ_cons, List.take_zero, List.drop_succ_cons, List.drop_zero]
                intro wd hwd hbd
                have yd := yc.same hwd
                have xd := xc.same hwd
                have zd := zc.same hwd
                have Bd := hbd _ _ Bc
                clear hbd
                have c1 := yd.cell (ka * 8 + kc) (boolCells_at (by rw [HZl.out]; omega))
                have c2 := xd.cell (ka * 8 + kb) (boolCells_at (by rw [HX.out]; omega))
                have c3 := xd.cell (kb * 8 + kc) (boolCells_at (by rw [HX.out]; omega))
                have f1 := yd.frozen (ka * 8 + kc)
                rw [e1] at c1
                rw [e2] at c2
                rw [e3] at c3
                clear hwd
                repeat (go_big_quiet_step (fail))
                refine wpQuiet_nil ?_
                go_wp2
                go_roundw
                case rel => exact ⟨kc + 1, by omega, by go_num, xd.far (by dsimp only; omega) _, zd.far (by dsimp only; omega) _, by rw [HS.out, ← boolCells_set]; exact yd.set _ _, Bd.setCell (p := ⟨g3, ka * 8 + kc, none⟩) (by dsimp only; omega) _⟩
                case measure => simp [intOf]; omega
            · obtain rfl : kc = 8 := by omega
              go_wp2
              go_roundw
              case rel => exact ⟨kb + 1, by omega, by go_num, xc, zc, yc, Bc⟩
              case measure => simp [intOf]; omega
        · obtain rfl : kb = 8 := by omega
          go_wp2
          go_roundw
          case rel => exact ⟨ka + 1, by omega, by go_num, xb, zb, yb, Bb⟩
          case measure => simp [intOf]; omega
    · obtain rfl : ka = 8 := by omega
      have HFl : Hid ((furtherL xs).length = 64) := by
        show (furA xs xs 8).length = 64
        rw [furA_len, HX.out]
      have ya' : Blk wa g3 134 (boolCells (furtherL xs)) := ya
      clear ya
      go_wp2_with (first
        | ((with_reducible refine gate_dst (N := 43) rfl ?_); refine ev_load_row (N := 43) rfl rfl 134 _ rfl g3 rfl (t := 134) (cs := boolCells (furtherL xs)) ya' Try.underlying134 ((HI _).out HFl.out) ?_)
        | ((with_reducible refine gate_store (t := 134) (p := 2) rfl ?_); refine ev_store_row rfl 134 _ _ rfl rfl g2 (boolCells (furtherL xs)) rfl rfl za ((HI _).out HFl.out) (by rw [boolCells_size, boolCells_size, HFl.out]; rfl) (boolCells_one _) ?_; intro w5 z5 hg5; have B5 : Below w.heap.size w w5 := Ba.grown hg5 Ba.size (by intro k e; cases e; omega); clear hg5))
      refine bodyPost_ret (v := .agg (boolCells (furtherL xs))) ?_ rfl ?_
      · refine results_cell_row rfl _ _ g2 134 (boolCells (furtherL xs)) (0, 0) _ rfl z5 Try.underlying134 rfl ((HI _).out HFl.out)
      · exact ⟨rfl, B5⟩
end Go.Proofs.Ytkdlbocjgbmbdaa.Print

namespace Go.Proofs.Ytkdlbocjgbmbdaa.Print
open Go.RowKit Go.Shelf Go.Proofs.YtkdlbocjgbmbdaaW.PrintWords
set_option linter.unusedVariables false
attribute [local go_sem] Oper.semAt_some
attribute [local go_sem] wide_fn wide_asked
/-- The first of some errors; 0 if there is none. -/
def firstE (f : Nat → Int) : Nat → Int
  | 0 => 0
  | n + 1 => if firstE f n = 0 then f n else firstE f n
theorem firstE_no (f : Nat → Int) : ∀ n, (∀ j, j < n → f j = 0) → firstE f n = 0
  | 0, _ => rfl
  | n + 1, h => by rw [firstE, firstE_no f n (fun j hj => h j (by omega)), if_pos rfl, h n (by omega)]
theorem firstE_yes (f : Nat → Int) (k : Nat) (e : Int) (he : f k = e) (hne : e ≠ 0) (hno : ∀ j, j < k → f j = 0) : ∀ n, k < n → firstE f n = e
  | 0, h => absurd h (by omega)
  | n + 1, h => by
    rcases Nat.lt_or_ge k n with h' | h'
    · rw [firstE, firstE_yes f k e he hne hno n h', if_neg hne]
    · obtain rfl : k = n := by omega
      rw [firstE, firstE_no f k hno, if_pos rfl, he]
theorem firstE_zero (f : Nat → Int) : ∀ n, firstE f n = 0 → ∀ j, j < n → f j = 0
  | 0, _, j, hj => absurd hj (by omega)
  | n + 1, h, j, hj => by
    rw [firstE] at h
    split at h
    · rename_i h0
      rcases Nat.lt_or_ge j n with h' | h'
      · exact firstE_zero f n h0 j h'
      · obtain rfl : j = n := by omega
        exact h
    · exact absurd h ‹_›
def linkE (names : Int) (before : List S84) (l : S84) : Int :=
  if inB l.f0 0 (names - 1) = false then 3 else if inB l.f1 0 (names - 1) = false then 3 else if (l.f0 == l.f1) = true then 2 else if hasSame before l = true then 4 else 0
def dueE (names : Int) (i : Nat) (prev d : S61) : Int :=
  if inB d.f0 0 4000 = false then 1 else if 0 < i ∧ d.f0 < prev.f0 then 5 else if inB d.f1 0 (names - 1) = false then 3 else if inB d.f2 0 100000000 = false then 1 else 0
def linksE (names : Int) (ls : List S84) : Int := firstE (fun k => linkE names (ls.take k) (ls.getD k z84)) ls.length
def duesE (names : Int) (ds : List S61) : Int := firstE (fun k => dueE names k (ds.getD (k - 1) z61) (ds.getD k z61)) ds.length
def restE (names : Int) (ls : List S84) (ds : List S61) : Int := if linksE names ls ≠ 0 then linksE names ls else if (20 : Int) < ds.length then 6 else duesE names ds
theorem restE_links {names : Int} {ls : List S84} {ds : List S61} {k : Nat} {e : Int} (hk : k < ls.length) (hno : ∀ j, j < k → linkE names (ls.take j) (ls.getD j z84) = 0) (he : linkE names (ls.take k) (ls.getD k z84) = e) (hne : e ≠ 0) : restE names ls ds = e := by
  have : linksE names ls = e := firstE_yes (fun k => linkE names (ls.take k) (ls.getD k z84)) k e he hne hno _ hk
  rw [restE, this, if_pos hne]
theorem restE_many {names : Int} {ls : List S84} {ds : List S61} (hno : ∀ j, j < ls.length → linkE names (ls.take j) (ls.getD j z84) = 0) (h : (20 : Int) < ds.length) : restE names ls ds = 6 := by
  have : linksE names ls = 0 := firstE_no _ _ hno
  rw [restE, this, if_neg (by simp), if_pos h]
theorem restE_dues {names : Int} {ls : List S84} {ds : List S61} (hno : ∀ j, j < ls.length → linkE names (ls.take j) (ls.getD j z84) = 0) (h : ¬ (20 : Int) < ds.length) : restE names ls ds = duesE names ds := by
  have : linksE names ls = 0 := firstE_no _ _ hno
  rw [restE, this, if_neg (by simp), if_neg h]
def tillE (names limit window : Int) (ls : List S84) (ds : List S61) : Int :=
  if names < 1 then 7 else if 8 < names then 6 else if inB limit 0 100000000 = false then 1 else if inB window 1 30 = false then 1 else if (10 : Int) < ls.length then 6
  else restE names ls ds
set_option maxRecDepth 100000 in
set_option maxHeartbeats 4000000 in
theorem check73_main (names limit window : Int) (A0 : Option Addr) (c0 : Nat) (ls : List S84) (A1 : Option Addr) (c1 : Nat) (ds : List S61) (w : World)
    (hl : Kd.C k84 w A0 ls.length ls) (hlc : ls.length ≤ c0) (hd : Kd.C k61 w A1 ds.length ds)
    (hn0 : 1 ≤ names) (hn1 : names ≤ 8) (hli : inB limit 0 100000000 = true) (hwi : inB window 1 30 = true) (hll : (ls.length : Int) ≤ 10) :
    Calls Try.prog 73 #[.agg #[.int .i64 names, .int .i64 limit, .int .i64 window, .slice A0 ls.length c0, .slice A1 ds.length c1]] w fun e w' =>
      e = .returned (.int .i64 (restE names ls ds)) ∧ Below w.heap.size w w' := by
  have hmax := Kd.C_max hd
  obtain ⟨cs, hcs⟩ : ∃ cs : Array Value, cs = #[.int .i64 names, .int .i64 limit, .int .i64 window, .slice A0 ls.length c0, .slice A1 ds.length c1] := ⟨_, rfl⟩
  go_enter Try.func73, Try.ntmps73
  go_wp2_with (go_at_call 81; refine (in_any _ _ _ _).mono ?_; rintro e w' ⟨rfl, rfl⟩)
  go_loopw [36] (fun i wr => ∃ k : Nat, k ≤ ls.length ∧ i = .int .i64 k ∧ Hid (∀ j, j < k → linkE names (ls.take j) (ls.getD j z84) = 0) ∧ Blk wr w.heap.size 48 #[.int .i64 names, .int .i64 limit, .int .i64 window, .slice A0 ls.length c0, .slice A1 ds.length c1] ∧ Below w.heap.size w wr) (fun i _ => ls.length - (intOf i).toNat)
  case atStart => exact ⟨0, Nat.zero_le _, rfl, fun j hj => absurd hj (by omega), blk_new w _ _, (Below.refl _ _).alloc (Nat.le_refl _) _⟩
  case round =>
    obtain ⟨k, hk, rfl, hno, hbt, hnx⟩ := hrel
    have hcl := Kd.C_below hl hnx
    by_cases hlt : k < ls.length
    · obtain ⟨ad, hA, q0, q1, q2⟩ := at_T84 hcl k (by omega) (by omega)
      subst hA
      simp only [Int.toNat_natCast] at q0 q1 q2
      rw [rd_T84_at ls k hlt] at q0 q1 q2
      obtain ⟨d, hd'⟩ : ∃ d, d = ls[k] := ⟨_, rfl⟩
      rw [← hd'] at q0 q1 q2
      have hg0 : ls.getD k z84 = d := by rw [hd']; simp [List.getD_eq_getElem?_getD, List.getElem?_eq_getElem hlt]
      have HG : Hid (ls.getD k z84 = d) := hg0
      clear hg0 hd'
      have b3 := hbt.cell 3 rfl
      have hbx := blk_new wr 84 (linkV d)
      have hb3 := (hbt.alloc (.cells (linkV d) 84)).cell 3 rfl
      have hct := Kd.C_alloc hcl (.cells (linkV d) 84)
      simp only [linkV] at hb3 hct hbx
      have hsz := hbt.lt
      cases g1 : inB d.f0 0 (names - 1) with
      | false =>
        have HR : Hid (restE names ls ds = 3) := restE_links hlt hno.out (by rw [HG.out, linkE, if_pos g1]) (by omega)
        go_wp2_with (go_at_call 81; refine (in_any _ _ _ _).mono ?_; rintro e w' ⟨rfl, rfl⟩)
        go_ret
        exact ⟨by rw [HR.out]; rfl, hnx.alloc (by omega) _⟩
      | true =>
        cases g2 : inB d.f1 0 (names - 1) with
        | false =>
          have HR : Hid (restE names ls ds = 3) := restE_links hlt hno.out (by rw [HG.out, linkE, g1, if_neg (by simp), if_pos g2]) (by omega)
          go_wp2_with (go_at_call 81; refine (in_any _ _ _ _).mono ?_; rintro e w' ⟨rfl, rfl⟩)
          go_ret
          exact ⟨by rw [HR.out]; rfl, hnx.alloc (by omega) _⟩
        | true =>
          cases g3 : (d.f0 == d.f1) with
          | true =>
            have HR : Hid (restE names ls ds = 2) := restE_links hlt hno.out (by rw [HG.out, linkE, g1, g2, if_neg (by simp), if_neg (by simp), if_pos g3]) (by omega)
            go_wp2_with (go_at_call 81; refine (in_any _ _ _ _).mono ?_; rintro e w' ⟨rfl, rfl⟩)
            go_ret
            exact ⟨by rw [HR.out]; rfl, hnx.alloc (by omega) _⟩
          | false =>
            have hck : Kd.C k84 (wr.alloc (.cells #[.int .i64 d.f0, .int .i64 d.f1, .bool d.f2] 84)) (some ad) k (ls.take k) := kC_take hct k hk
            have hkc : k ≤ c0 := by omega
            cases g4 : hasSame (ls.take k) d with
            | true =>
              have HR : Hid (restE names ls ds = 4) := restE_links hlt hno.out (by rw [HG.out, linkE, g1, g2, g3, g4]; rfl) (by omega)
              go_wp2_with (first | (go_at_call 81; refine (in_any _ _ _ _).mono ?_; rintro e w' ⟨rfl, rfl⟩) | (go_at_call 122; refine (contains122_any _ _ _ _ _ _ _ hck hbx).mono ?_; rw [g4]; rintro e w1 ⟨rfl, hb1⟩))
              go_ret
              exact ⟨by rw [HR.out]; rfl, (hnx.alloc (by omega) _).trans (hb1.mono (by simp; omega))⟩
            | false =>
              have HL : Hid (linkE names (ls.take k) (ls.getD k z84) = 0) := by
                show linkE names (ls.take k) (ls.getD k z84) = 0
                rw [HG.out, linkE, g1, g2, g3, g4]; rfl
              go_wp2_with (first | (go_at_call 81; refine (in_any _ _ _ _).mono ?_; rintro e w' ⟨rfl, rfl⟩) | (go_at_call 122; refine (contains122_any _ _ _ _ _ _ _ hck hbx).mono ?_; rw [g4]; rintro e w1 ⟨rfl, hb1⟩))
              go_roundw
              case rel => exact ⟨k + 1, by omega, by go_num, fun j hj => by
                rcases Nat.lt_or_ge j k with h | h
                · exact hno.out j h
                · obtain rfl : j = k := by omega
                  exact HL.out, (hbt.alloc _).below hb1 (by simp; omega), (hnx.alloc (by omega) _).trans (hb1.mono (by simp; omega))⟩
              case measure => simp [intOf]; omega
    · obtain rfl : k = ls.length := by omega
      have b4 := hbt.cell 4 rfl
      have hsz := hbt.lt
      by_cases h20 : (20 : Int) < ds.length
      · have HR : Hid (restE names ls ds = 6) := restE_many hno.out h20
        go_wp2
        go_ret
        exact ⟨by rw [HR.out]; rfl, hnx⟩
      · have HR : Hid (restE names ls ds = duesE names ds) := restE_dues hno.out h20
        go_wp2
        go_loopw [73] (fun i wq => ∃ q : Nat, q ≤ ds.length ∧ i = .int .i64 q ∧ Hid (∀ j, j < q → dueE names j (ds.getD (j - 1) z61) (ds.getD j z61) = 0) ∧ Blk wq w.heap.size 48 #[.int .i64 names, .int .i64 limit, .int .i64 window, .slice A0 ls.length c0, .slice A1 ds.length c1] ∧ Below w.heap.size w wq) (fun i _ => ds.length - (intOf i).toNat)
        case atStart => exact ⟨0, Nat.zero_le _, rfl, fun j hj => absurd hj (by omega), hbt, hnx⟩
        case round =>
          obtain ⟨q, hq, rfl, hno2, hbt2, hnx2⟩ := hrel
          have hcd := Kd.C_below hd hnx2
          have hsz2 := hbt2.lt
          by_cases hlt2 : q < ds.length
          · obtain ⟨ad, hA, p0, p1, p2, p3⟩ := at_T61 hcd q (by omega) (by omega)
            obtain ⟨ad', hA', r0, r1, r2, r3⟩ := at_T61 hcd ((q - 1 : Nat) : Int) (by omega) (by omega)
            subst hA
            obtain rfl : ad = ad' := by injection hA'
            clear hA' r1 r2 r3
            simp only [Int.toNat_natCast] at p0 p1 p2 p3 r0
            rw [rd_T61_at ds q hlt2] at p0 p1 p2 p3
            rw [rd_T61_at ds (q - 1) (by omega)] at r0
            obtain ⟨d, hd'⟩ : ∃ d, d = ds[q] := ⟨_, rfl⟩
            obtain ⟨pd, hp'⟩ : ∃ pd, pd = ds[q - 1] := ⟨_, rfl⟩
            rw [← hd'] at p0 p1 p2 p3
            rw [← hp'] at r0
            have hg0 : ds.getD q z61 = d := by rw [hd']; simp [List.getD_eq_getElem?_getD, List.getElem?_eq_getElem hlt2]
            have hg1 : ds.getD (q - 1) z61 = pd := by rw [hp']; simp [List.getD_eq_getElem?_getD, List.getElem?_eq_getElem (show q - 1 < ds.length by omega)]
            have HG : Hid (dueE names q (ds.getD (q - 1) z61) (ds.getD q z61) = dueE names q pd d) := by
              show dueE names q (ds.getD (q - 1) z61) (ds.getD q z61) = dueE names q pd d
              rw [hg0, hg1]
            clear hg0 hg1 hd' hp'
            have hend : ∀ e : Int, dueE names q pd d = e → e ≠ 0 → Hid (restE names ls ds = e) := fun e he hne => HR.out.trans (firstE_yes (fun k => dueE names k (ds.getD (k - 1) z61) (ds.getD k z61)) q e (HG.out.trans he) hne hno2.out _ hlt2)
            have b4' := hbt2.cell 4 rfl
            cases g1 : inB d.f0 0 4000 with
            | false =>
              have HR2 := hend 1 (by rw [dueE, if_pos g1]) (by omega)
              clear hend
              go_wp2_with (go_at_call 81; refine (in_any _ _ _ _).mono ?_; rintro e w' ⟨rfl, rfl⟩)
              go_ret
              exact ⟨by rw [HR2.out]; rfl, hnx2.alloc (by omega) _⟩
            | true =>
              by_cases hq0 : 0 < q
              · have hz : (0 : Int) < q := by omega
                have hw1 : IntKind.i64.wrap ((q : Int) - 1) = (q : Int) - 1 := IntWalk.i64_in _ (by omega)
                have hw2 : ((q : Int) - 1).toNat = q - 1 := by omega
                have hw3 : (1 : Int) ≤ (q : Int) := by omega
                have hw4 : (q : Int) - 1 < (ds.length : Int) := by omega
                have hw5 : ¬ (q : Int) < 1 := by omega
                have r1 := pw_cell_below ((Below.refl _ wr).alloc (Nat.le_refl _) (.cells #[.int .i64 d.f0, .int .i64 d.f1, .int .i64 d.f2, .bool d.f3] 61)) r0
                by_cases g2 : d.f0 < pd.f0
                · have HR2 := hend 5 (by rw [dueE, g1, if_neg (by simp), if_pos ⟨hq0, g2⟩]) (by omega)
                  clear hend
                  go_wp2_with (go_at_call 81; refine (in_any _ _ _ _).mono ?_; rintro e w' ⟨rfl, rfl⟩)
                  go_quiet (fail)
                  go_wp2
                  go_ret
                  exact ⟨by rw [HR2.out]; rfl, below_drewN' (hnx2.alloc (by omega) _) nq⟩
                · have hg2 : ¬ (0 < q ∧ d.f0 < pd.f0) := fun h => g2 h.2
                  have hg5 : decide (d.f0 < pd.f0) = false := by simpa using g2
                  cases g3 : inB d.f1 0 (names - 1) with
                  | false =>
                    have HR2 := hend 3 (by rw [dueE, g1, if_neg (by simp), if_neg hg2, if_pos g3]) (by omega)
                    clear hend
                    go_wp2_with (go_at_call 81; refine (in_any _ _ _ _).mono ?_; rintro e w' ⟨rfl, rfl⟩)
                    go_quiet (fail)
                    go_wp2_with (go_at_call 81; refine (in_any _ _ _ _).mono ?_; rintro e w' ⟨rfl, rfl⟩)
                    go_ret
                    exact ⟨by rw [HR2.out]; rfl, below_drewN' (hnx2.alloc (by omega) _) nq⟩
                  | true =>
                    cases g4 : inB d.f2 0 100000000 with
                    | false =>
                      have HR2 := hend 1 (by rw [dueE, g1, if_neg (by simp), if_neg hg2, g3, if_neg (by simp), if_pos g4]) (by omega)
                      clear hend
                      go_wp2_with (go_at_call 81; refine (in_any _ _ _ _).mono ?_; rintro e w' ⟨rfl, rfl⟩)
                      go_quiet (fail)
                      go_wp2_with (go_at_call 81; refine (in_any _ _ _ _).mono ?_; rintro e w' ⟨rfl, rfl⟩)
                      go_ret
                      exact ⟨by rw [HR2.out]; rfl, below_drewN' (hnx2.alloc (by omega) _) nq⟩
                    | true =>
                      have HZ : Hid (dueE names q (ds.getD (q - 1) z61) (ds.getD q z61) = 0) := HG.out.trans (by rw [dueE, g1, if_neg (by simp), if_neg hg2, g3, if_neg (by simp), g4, if_neg (by simp)])
                      clear hend
                      go_wp2_with (go_at_call 81; refine (in_any _ _ _ _).mono ?_; rintro e w' ⟨rfl, rfl⟩)
                      go_quiet (fail)
                      go_wp2_with (go_at_call 81; refine (in_any _ _ _ _).mono ?_; rintro e w' ⟨rfl, rfl⟩)
                      go_roundw
                      case rel => exact ⟨q + 1, by omega, by go_num, fun j hj => by
                        rcases Nat.lt_or_ge j q with h | h
                        · exact hno2.out j h
                        · obtain rfl : j = q := by omega
                          exact HZ.out, (hbt2.alloc _).drewN nq, below_drewN' (hnx2.alloc (by omega) _) nq⟩
                      case measure => simp [intOf]; omega
              · have hq1 : q = 0 := by omega
                have hg2 : ¬ (0 < q ∧ d.f0 < pd.f0) := fun h => hq0 h.1
                have hz : decide ((0 : Int) < (q : Int)) = false := by simpa using hq0
                clear hq1 r0
                cases g3 : inB d.f1 0 (names - 1) with
                | false =>
                  have HR2 := hend 3 (by rw [dueE, g1, if_neg (by simp), if_neg hg2, if_pos g3]) (by omega)
                  clear hend
                  go_wp2_with (go_at_call 81; refine (in_any _ _ _ _).mono ?_; rintro e w' ⟨rfl, rfl⟩)
                  go_quiet (fail)
                  go_wp2_with (go_at_call 81; refine (in_any _ _ _ _).mono ?_; rintro e w' ⟨rfl, rfl⟩)
                  go_ret
                  exact ⟨by rw [HR2.out]; rfl, below_drewN' (hnx2.alloc (by omega) _) nq⟩
                | true =>
                  cases g4 : inB d.f2 0 100000000 with
                  | false =>
                    have HR2 := hend 1 (by rw [dueE, g1, if_neg (by simp), if_neg hg2, g3, if_neg (by simp), if_pos g4]) (by omega)
                    clear hend
                    go_wp2_with (go_at_call 81; refine (in_any _ _ _ _).mono ?_; rintro e w' ⟨rfl, rfl⟩)
                    go_quiet (fail)
                    go_wp2_with (go_at_call 81; refine (in_any _ _ _ _).mono ?_; rintro e w' ⟨rfl, rfl⟩)
                    go_ret
                    exact ⟨by rw [HR2.out]; rfl, below_drewN' (hnx2.alloc (by omega) _) nq⟩
                  | true =>
                    have HZ : Hid (dueE names q (ds.getD (q - 1) z61) (ds.getD q z61) = 0) := HG.out.trans (by rw [dueE, g1, if_neg (by simp), if_neg hg2, g3, if_neg (by simp), g4, if_neg (by simp)])
                    clear hend
                    go_wp2_with (go_at_call 81; refine (in_any _ _ _ _).mono ?_; rintro e w' ⟨rfl, rfl⟩)
                    go_quiet (fail)
                    go_wp2_with (go_at_call 81; refine (in_any _ _ _ _).mono ?_; rintro e w' ⟨rfl, rfl⟩)
                    go_roundw
                    case rel => exact ⟨q + 1, by omega, by go_num, fun j hj => by
                      rcases Nat.lt_or_ge j q with h | h
                      · exact hno2.out j h
                      · obtain rfl : j = q := by omega
                        exact HZ.out, (hbt2.alloc _).drewN nq, below_drewN' (hnx2.alloc (by omega) _) nq⟩
                    case measure => simp [intOf]; omega
          · obtain rfl : q = ds.length := by omega
            have HR2 : Hid (duesE names ds = 0) := firstE_no _ _ hno2.out
            go_wp2
            go_ret
            exact ⟨by rw [HR.out, HR2.out]; rfl, hnx2⟩
end Go.Proofs.Ytkdlbocjgbmbdaa.Print

namespace Go.Proofs.Ytkdlbocjgbmbdaa.Print
open Go.RowKit Go.Shelf Go.Proofs.YtkdlbocjgbmbdaaW.PrintWords
set_option linter.unusedVariables false
attribute [local go_sem] Oper.semAt_some
attribute [local go_sem] wide_fn wide_asked
set_option maxRecDepth 100000 in
set_option maxHeartbeats 4000000 in
theorem check73_any (names limit window : Int) (A0 : Option Addr) (c0 : Nat) (ls : List S84) (A1 : Option Addr) (c1 : Nat) (ds : List S61) (w : World)
    (hl : Kd.C k84 w A0 ls.length ls) (hlc : ls.length ≤ c0) (hd : Kd.C k61 w A1 ds.length ds) :
    Calls Try.prog 73 #[.agg #[.int .i64 names, .int .i64 limit, .int .i64 window, .slice A0 ls.length c0, .slice A1 ds.length c1]] w fun e w' =>
      e = .returned (.int .i64 (tillE names limit window ls ds)) ∧ Below w.heap.size w w' := by
  have hB := (Below.refl w.heap.size w).alloc (Nat.le_refl _) (.cells #[.int .i64 names, .int .i64 limit, .int .i64 window, .slice A0 ls.length c0, .slice A1 ds.length c1] 48)
  by_cases h1 : names < 1
  · have HR : Hid (tillE names limit window ls ds = 7) := by
      show tillE names limit window ls ds = 7
      rw [tillE, if_pos h1]
    go_enter Try.func73, Try.ntmps73
    go_wp2
    go_ret
    exact ⟨by rw [HR.out]; rfl, hB⟩
  by_cases h2 : 8 < names
  · have HR : Hid (tillE names limit window ls ds = 6) := by
      show tillE names limit window ls ds = 6
      rw [tillE, if_neg h1, if_pos h2]
    go_enter Try.func73, Try.ntmps73
    go_wp2
    go_ret
    exact ⟨by rw [HR.out]; rfl, hB⟩
  cases h3 : inB limit 0 100000000 with
  | false =>
    have HR : Hid (tillE names limit window ls ds = 1) := by
      show tillE names limit window ls ds = 1
      rw [tillE, if_neg h1, if_neg h2, if_pos h3]
    go_enter Try.func73, Try.ntmps73
    go_wp2_with (go_at_call 81; refine (in_any _ _ _ _).mono ?_; rintro e w' ⟨rfl, rfl⟩)
    go_ret
    exact ⟨by rw [HR.out]; rfl, hB⟩
  | true =>
    cases h4 : inB window 1 30 with
    | false =>
      have HR : Hid (tillE names limit window ls ds = 1) := by
        show tillE names limit window ls ds = 1
        rw [tillE, if_neg h1, if_neg h2, h3, if_neg (by simp), if_pos h4]
      go_enter Try.func73, Try.ntmps73
      go_wp2_with (go_at_call 81; refine (in_any _ _ _ _).mono ?_; rintro e w' ⟨rfl, rfl⟩)
      go_ret
      exact ⟨by rw [HR.out]; rfl, hB⟩
    | true =>
      by_cases h5 : (10 : Int) < ls.length
      · have HR : Hid (tillE names limit window ls ds = 6) := by
          show tillE names limit window ls ds = 6
          rw [tillE, if_neg h1, if_neg h2, h3, if_neg (by simp), h4, if_neg (by simp), if_pos h5]
        go_enter Try.func73, Try.ntmps73
        go_wp2_with (go_at_call 81; refine (in_any _ _ _ _).mono ?_; rintro e w' ⟨rfl, rfl⟩)
        go_ret
        exact ⟨by rw [HR.out]; rfl, hB⟩
      · refine (check73_main names limit window A0 c0 ls A1 c1 ds w hl hlc hd (by omega) (by omega) h3 h4 (by omega)).mono ?_
        rintro e w' ⟨rfl, hb⟩
        exact ⟨by rw [tillE, if_neg h1, if_neg h2, h3, if_neg (by simp), h4, if_neg (by simp), if_neg h5], hb⟩
end Go.Proofs.Ytkdlbocjgbmbdaa.Print

namespace Go.Proofs.Ytkdlbocjgbmbdaa.Print
open Go.RowKit Go.Shelf Go.Proofs.YtkdlbocjgbmbdaaW.PrintWords
set_option linter.unusedVariables false
attribute [local go_sem] Oper.semAt_some
attribute [local go_sem] wide_fn wide_asked
theorem agg132 (w : World) : (isAgg 132).run Try.prog w = .ok true w := by kernel_rfl
theorem agg4 (w : World) : (isAgg 4).run Try.prog w = .ok false w := by kernel_rfl
theorem siz132 (w : World) : (sizeOf 132).run Try.prog w = .ok 8 w := by kernel_rfl
theorem siz4 (w : World) : (sizeOf 4).run Try.prog w = .ok 1 w := by kernel_rfl
def eqB (xs ys : List Bool) : Bool := (List.range 8).all fun i => (List.range 8).all fun j => xs.getD (i * 8 + j) false == ys.getD (i * 8 + j) false
theorem part132 (xs : List Bool) (i : Nat) (w : World) : (part 132 (boolCells xs) (i * 8)).run Try.prog w = .ok (.agg (boolCells ((xs.drop (i * 8)).take 8))) w := by
  unfold part
  rw [Sem.run_bind, agg132]
  simp only [Result.andThen_ok, if_true, Sem.run_bind, siz132, Sem.run_pure]
  congr 2
  simp [boolCells, List.map_take, List.map_drop]
theorem part4 (xs : List Bool) (j : Nat) (hj : j < xs.length) (w : World) : (part 4 (boolCells xs) (j * 1)).run Try.prog w = .ok (.bool (xs.getD j false)) w := by
  unfold part
  rw [Sem.run_bind, agg4]
  simp only [Result.andThen_ok, Bool.false_eq_true, if_false, Nat.mul_one, boolCells_at hj, Sem.run_pure]
theorem eql134 (xs ys : List Bool) (hx : xs.length = 64) (hy : ys.length = 64) (w : World) : (Op.equalIn 10000 134 (.agg (boolCells xs)) (.agg (boolCells ys))).run Try.prog w = .ok (eqB xs ys) w := by
  refine run_equalIn_array 9999 134 8 132 8 _ _ _ w Try.underlying134 (siz132 w) fun i hi => ⟨_, _, part132 xs i w, part132 ys i w, ?_⟩
  refine run_equalIn_array 9998 132 8 4 1 _ _ _ w Try.underlying132 (siz4 w) fun j hj => ⟨_, _, part4 _ j ?_ w, part4 _ j ?_ w, ?_⟩
  · simp [hx]; omega
  · simp [hy]; omega
  · rw [run_equalIn_bool' w 9997 4 _ _ Try.underlying4]
    have e1 : ((xs.drop (i * 8)).take 8).getD j false = xs.getD (i * 8 + j) false := by simp [List.getD_eq_getElem?_getD, List.getElem?_take, List.getElem?_drop, hj]
    have e2 : ((ys.drop (i * 8)).take 8).getD j false = ys.getD (i * 8 + j) false := by simp [List.getD_eq_getElem?_getD, List.getElem?_take, List.getElem?_drop, hj]
    rw [e1, e2]
theorem eqB_iff (xs ys : List Bool) (hx : xs.length = 64) (hy : ys.length = 64) : eqB xs ys = true ↔ xs = ys := by
  constructor
  · intro h
    apply List.ext_getElem (by omega)
    intro k h1 h2
    simp only [eqB, List.all_eq_true, List.mem_range] at h
    have := h (k / 8) (by omega) (k % 8) (by omega)
    rw [show k / 8 * 8 + k % 8 = k by omega] at this
    simpa [List.getD_eq_getElem?_getD, List.getElem?_eq_getElem h1, List.getElem?_eq_getElem h2] using this
  · rintro rfl
    simp [eqB]
end Go.Proofs.Ytkdlbocjgbmbdaa.Print

namespace Go.Proofs.Ytkdlbocjgbmbdaa.Print
open Go.RowKit Go.Shelf Go.Proofs.YtkdlbocjgbmbdaaW.PrintWords
set_option linter.unusedVariables false
attribute [local go_sem] Oper.semAt_some
attribute [local go_sem] wide_fn wide_asked
def leB : List Bool → List Bool → Prop
  | [], [] => True
  | x :: xs, y :: ys => (x = true → y = true) ∧ leB xs ys
  | _, _ => False
theorem leB_refl : ∀ xs, leB xs xs
  | [] => trivial
  | x :: xs => ⟨id, leB_refl xs⟩
theorem leB_trans : ∀ {xs ys zs : List Bool}, leB xs ys → leB ys zs → leB xs zs
  | [], [], [], _, _ => trivial
  | _ :: _, _ :: _, _ :: _, h, k => ⟨fun e => k.1 (h.1 e), leB_trans h.2 k.2⟩
  | [], _ :: _, _, h, _ => h.elim
  | _ :: _, [], _, h, _ => h.elim
  | [], [], _ :: _, _, k => k.elim
  | _ :: _, _ :: _, [], _, k => k.elim
theorem leB_set : ∀ (xs : List Bool) (i : Nat) (b : Bool), (xs.getD i false = true → b = true) → leB xs (xs.set i b)
  | [], _, _, _ => trivial
  | x :: xs, 0, b, h => ⟨fun e => h (by simpa using e), leB_refl xs⟩
  | x :: xs, i + 1, b, h => ⟨id, leB_set xs i b (by simpa using h)⟩
theorem leB_cnt : ∀ {xs ys : List Bool}, leB xs ys → xs.countP id ≤ ys.countP id ∧ (xs ≠ ys → xs.countP id < ys.countP id)
  | [], [], _ => ⟨Nat.le_refl _, fun h => absurd rfl h⟩
  | x :: xs, y :: ys, h => by
    obtain ⟨h1, h2⟩ := leB_cnt h.2
    have h0 := h.1
    cases x <;> cases y <;> simp at h0 ⊢
    · exact ⟨h1, h2⟩
    · exact ⟨by omega, by omega⟩
    · exact ⟨h1, h2⟩
  | [], _ :: _, h => h.elim
  | _ :: _, [], h => h.elim
theorem furC_le (xs : List Bool) (a b : Nat) (ys : List Bool) : ∀ k, leB ys (furC xs a b ys k)
  | 0 => leB_refl _
  | k + 1 => leB_trans (furC_le xs a b ys k) (leB_set _ _ _ (fun e => by rw [e]; rfl))
theorem furB_le (xs : List Bool) (a : Nat) (ys : List Bool) : ∀ k, leB ys (furB xs a ys k)
  | 0 => leB_refl _
  | k + 1 => leB_trans (furB_le xs a ys k) (furC_le _ _ _ _ _)
theorem furA_le (xs : List Bool) (ys : List Bool) : ∀ k, leB ys (furA xs ys k)
  | 0 => leB_refl _
  | k + 1 => leB_trans (furA_le xs ys k) (furB_le _ _ _ _)
theorem furtherL_le (xs : List Bool) : leB xs (furtherL xs) := furA_le xs xs 8
theorem furtherL_len (xs : List Bool) : (furtherL xs).length = xs.length := furA_len xs xs 8
/-- Till nothing changes any more. -/
def fixL : Nat → List Bool → List Bool
  | 0, xs => xs
  | n + 1, xs => if furtherL xs = xs then xs else fixL n (furtherL xs)
def diagK : Nat → List Bool
  | 0 => zeros64
  | k + 1 => (diagK k).set (k * 8 + k) true
theorem diagK_len : ∀ k, (diagK k).length = 64
  | 0 => by simp [diagK, zeros64]
  | k + 1 => by rw [diagK, List.length_set, diagK_len]
def linkStep (all : Bool) (xs : List Bool) (l : S84) : List Bool := if (all || l.f2) = true then (xs.set (l.f0.toNat * 8 + l.f1.toNat) true).set (l.f1.toNat * 8 + l.f0.toNat) true else xs
theorem linkStep_len (all : Bool) (xs : List Bool) (l : S84) : (linkStep all xs l).length = xs.length := by
  unfold linkStep
  split <;> simp
def linkK (all : Bool) (ls : List S84) : Nat → List Bool
  | 0 => diagK 8
  | k + 1 => linkStep all (linkK all ls k) (ls.getD k z84)
theorem linkK_len (all : Bool) (ls : List S84) : ∀ k, (linkK all ls k).length = 64
  | 0 => diagK_len 8
  | k + 1 => by rw [linkK, linkStep_len, linkK_len]
def tiesL (all : Bool) (ls : List S84) : List Bool := fixL 65 (linkK all ls ls.length)
theorem fixL_len : ∀ n xs, (fixL n xs).length = xs.length
  | 0, _ => rfl
  | n + 1, xs => by
    unfold fixL
    split
    · rfl
    · rw [fixL_len n, furtherL_len]
theorem tiesL_len (all : Bool) (ls : List S84) : (tiesL all ls).length = 64 := by rw [tiesL, fixL_len, linkK_len]
structure OkLink (names : Int) (l : S84) : Prop where
  ne : l.f0 ≠ l.f1
  a0 : 0 ≤ l.f0
  a1 : l.f0 < names
  b0 : 0 ≤ l.f1
  b1 : l.f1 < names
set_option maxRecDepth 100000 in
set_option maxHeartbeats 8000000 in
theorem tiesOf_any (names limit window : Int) (A0 : Option Addr) (c0 : Nat) (ls : List S84) (vd : Value) (all : Bool) (w : World)
    (hl : Kd.C k84 w A0 ls.length ls) (hok : ∀ l ∈ ls, OkLink names l) (hn : names ≤ 8) :
    Calls Try.prog 87 #[.agg #[.int .i64 names, .int .i64 limit, .int .i64 window, .slice A0 ls.length c0, vd], .bool all] w fun e w' =>
      e = .returned (.agg (boolCells (tiesL all ls))) ∧ Below w.heap.size w w' := by
  have hmax := Kd.C_max hl
  have HI : ∀ ys : List Bool, Hid (ys.length = 64 → (Try.prog.info? 134).map (·.size) = some (boolCells ys).size) := fun ys h => by rw [boolCells_size, h]; exact info134
  have h64 : Hid (zeros64.length = 64) := by show zeros64.length = 64; simp [zeros64]
  obtain ⟨tc, htc⟩ : ∃ tc : Array Value, tc = #[.int .i64 names, .int .i64 limit, .int .i64 window, .slice A0 ls.length c0, vd] := ⟨_, rfl⟩
  go_enter Try.func87, Try.ntmps87
  go_wp2_with (first
    | ((with_reducible refine gate_dst (N := 4) rfl ?_); refine box_event rfl (N := 4) rfl (cs := boolCells zeros64) (t := 134) (alloc134 _ _ rfl _) ?_; intro g4 hg4 w4 hb4 hB4; have t4 : Blk w4 w.heap.size 48 #[.int .i64 names, .int .i64 limit, .int .i64 window, .slice A0 ls.length c0, vd] := (blk_new w 48 _).below hB4 (by simp); have G4 : w.heap.size < g4 := (by rw [hg4]; simp); clear hg4; have B4 : Below w.heap.size w w4 := (below_alloc' (Below.refl _ w) _).trans (hB4.mono (by simp)); clear hB4; have z4 : Blk w4 g4 134 (boolCells zeros64) := hb4; clear hb4)
    | ((with_reducible refine gate_dst (N := 5) rfl ?_); refine box_event rfl (N := 5) rfl (cs := boolCells zeros64) (t := 134) (alloc134 _ _ rfl _) ?_; intro g5 hg5 w5 hb5 hB5; have t5 := t4.below hB5 t4.lt; have z5 := z4.below hB5 z4.lt; have B5 : Below w.heap.size w w5 := B4.trans (hB5.mono B4.size); have y5 : Blk w5 g5 134 (boolCells zeros64) := hb5; have l4 := z4.lt; have G5 : g4 < g5 := (by omega); clear hB5 hb5 hg5 t4 z4 B4 l4))
  go_loopw [10] (fun i wr => ∃ k : Nat, k ≤ 8 ∧ i = .int .i64 k ∧ Blk wr w.heap.size 48 #[.int .i64 names, .int .i64 limit, .int .i64 window, .slice A0 ls.length c0, vd] ∧ Blk wr g4 134 (boolCells zeros64) ∧ Blk wr g5 134 (boolCells (diagK k)) ∧ Below w.heap.size w wr) (fun i _ => 8 - (intOf i).toNat)
  case atStart => exact ⟨0, by omega, rfl, t5, z5, y5, B5⟩
  case round =>
    clear t5 z5 y5 B5
    obtain ⟨k, hk, rfl, tk, zk, yk, Bk⟩ := hrel
    by_cases hlt : k < 8
    · have c1 := yk.cell (k * 8 + k) (boolCells_at (by rw [diagK_len]; omega))
      have f1 := yk.frozen (k * 8 + k)
      go_wp2
      go_roundw
      case rel => exact ⟨k + 1, by omega, by go_num, tk.far (by dsimp only; omega) _, zk.far (by dsimp only; omega) _, by rw [diagK, ← boolCells_set]; exact yk.set _ _, Bk.setCell (p := ⟨g5, k * 8 + k, none⟩) (by dsimp only; omega) _⟩
      case measure => simp [intOf]; omega
    · obtain rfl : k = 8 := by omega
      have s3 := tk.cell 3 rfl
      have tz := tk.lt
      go_wp2
      go_loopw [21] (fun i wr => ∃ k : Nat, k ≤ ls.length ∧ i = .int .i64 k ∧ Blk wr w.heap.size 48 #[.int .i64 names, .int .i64 limit, .int .i64 window, .slice A0 ls.length c0, vd] ∧ Blk wr g4 134 (boolCells zeros64) ∧ Blk wr g5 134 (boolCells (linkK all ls k)) ∧ Below w.heap.size w wr) (fun i _ => ls.length - (intOf i).toNat)
      case atStart => exact ⟨0, by omega, rfl, tk, zk, yk, Bk⟩
      case round =>
        clear tk zk yk Bk s3
        obtain ⟨k, hk, rfl, tk, zk, yk, Bk⟩ := hrel
        by_cases hlt2 : k < ls.length
        · obtain ⟨ad, hA, q0, q1, q2⟩ := at_T84 (Kd.C_below hl Bk) k (by omega) (by omega)
          subst hA
          simp only [Int.toNat_natCast] at q0 q1 q2
          rw [rd_T84_at ls k hlt2] at q0 q1 q2
          have ho := hok ls[k] (List.getElem_mem _)
          obtain ⟨d, hd'⟩ : ∃ d, d = ls[k] := ⟨_, rfl⟩
          rw [← hd'] at q0 q1 q2 ho
          have hg0 : ls.getD k z84 = d := by rw [hd']; simp [List.getD_eq_getElem?_getD, List.getElem?_eq_getElem hlt2]
          have HG : Hid (ls.getD k z84 = d) := hg0
          clear hg0 hd'
          obtain ⟨o0, o1, o2, o3, o4⟩ := ho
          have G5' := yk.lt
          cases ha : (all || d.f2) with
          | false =>
            obtain ⟨ha1, ha2⟩ := Bool.or_eq_false_iff.1 ha
            rw [ha2] at q2
            have HS : Hid (linkK all ls (k + 1) = linkK all ls k) := by
              show linkK all ls (k + 1) = linkK all ls k
              rw [linkK, HG.out, linkStep, ha]; rfl
            clear ha
            subst ha1
            go_wp2
            go_roundw
            case rel => exact ⟨k + 1, by omega, by go_num, tk.alloc _, zk.alloc _, by rw [HS.out]; exact yk.alloc _, Bk.alloc (by omega) _⟩
            case measure => simp [intOf]; omega
          | true =>
            have HS : Hid (linkK all ls (k + 1) = ((linkK all ls k).set (d.f0.toNat * 8 + d.f1.toNat) true).set (d.f1.toNat * 8 + d.f0.toNat) true) := by
              show linkK all ls (k + 1) = _
              rw [linkK, HG.out, linkStep, ha]; rfl
            have hag : all = true ∨ (all = false ∧ d.f2 = true) := by cases all <;> simp_all
            clear ha
            have t1 := tk.alloc (.cells #[.int .i64 d.f0, .int .i64 d.f1, .bool d.f2] 84)
            have z1 := zk.alloc (.cells #[.int .i64 d.f0, .int .i64 d.f1, .bool d.f2] 84)
            have y1 := yk.alloc (.cells #[.int .i64 d.f0, .int .i64 d.f1, .bool d.f2] 84)
            have d1 := blk_new wr 84 #[.int .i64 d.f0, .int .i64 d.f1, .bool d.f2]
            have B1 := Bk.alloc (by omega) (.cells #[.int .i64 d.f0, .int .i64 d.f1, .bool d.f2] 84)
            rcases hag with ha | ⟨ha, hd2⟩
            · subst ha
              go_wp2
              generalize hW1 : wr.alloc (.cells #[.int .i64 d.f0, .int .i64 d.f1, .bool d.f2] 84) = W1 at t1 z1 y1 d1 B1 ⊢
              generalize hgd : wr.heap.size = gd at d1 G5' ⊢
              have c1 := y1.cell (d.f0.toNat * 8 + d.f1.toNat) (boolCells_at (by rw [linkK_len]; omega))
              have c2 := y1.cell (d.f1.toNat * 8 + d.f0.toNat) (boolCells_at (by rw [linkK_len]; omega))
              have f1 := y1.frozen (d.f0.toNat * 8 + d.f1.toNat)
              have f2 := y1.frozen (d.f1.toNat * 8 + d.f0.toNat)
              have e0 := d1.cell 0 rfl
              have e1 := d1.cell 1 rfl
              have hne : ¬ (gd = g5) := by omega
              have hne' : ¬ (g5 = gd) := by omega
              have hnx : ¬ (d.f0.toNat * 8 + d.f1.toNat = d.f1.toNat * 8 + d.f0.toNat) := by omega
              have hnx' : ¬ (d.f1.toNat * 8 + d.f0.toNat = d.f0.toNat * 8 + d.f1.toNat) := by omega
              simp only [List.getElem_toArray, List.getElem_cons_zero, List.getElem_cons_succ] at e0 e1
              clear hW1 hgd
              go_region
              go_wp2
              go_roundw
              case rel => exact ⟨k + 1, by omega, by go_num, ((t1.far (by dsimp only; omega) _).far (by dsimp only; omega) _ : Blk _ w.heap.size 48 _), ((z1.far (by dsimp only; omega) _).far (by dsimp only; omega) _ : Blk _ g4 134 _), by rw [HS.out, ← boolCells_set, ← boolCells_set]; exact (y1.set _ _).set _ _, ((B1.setCell (p := ⟨g5, d.f0.toNat * 8 + d.f1.toNat, none⟩) (by dsimp only; omega) _).setCell (p := ⟨g5, d.f1.toNat * 8 + d.f0.toNat, none⟩) (by dsimp only; omega) _).drew⟩
              case measure => simp [intOf]; omega
            · subst ha
              rw [hd2] at q2 t1 z1 y1 d1 B1
              go_wp2
              generalize hW1 : wr.alloc (.cells #[.int .i64 d.f0, .int .i64 d.f1, .bool true] 84) = W1 at t1 z1 y1 d1 B1 ⊢
              generalize hgd : wr.heap.size = gd at d1 G5' ⊢
              have c1 := y1.cell (d.f0.toNat * 8 + d.f1.toNat) (boolCells_at (by rw [linkK_len]; omega))
              have c2 := y1.cell (d.f1.toNat * 8 + d.f0.toNat) (boolCells_at (by rw [linkK_len]; omega))
              have f1 := y1.frozen (d.f0.toNat * 8 + d.f1.toNat)
              have f2 := y1.frozen (d.f1.toNat * 8 + d.f0.toNat)
              have e0 := d1.cell 0 rfl
              have e1 := d1.cell 1 rfl
              have hne : ¬ (gd = g5) := by omega
              have hne' : ¬ (g5 = gd) := by omega
              have hnx : ¬ (d.f0.toNat * 8 + d.f1.toNat = d.f1.toNat * 8 + d.f0.toNat) := by omega
              have hnx' : ¬ (d.f1.toNat * 8 + d.f0.toNat = d.f0.toNat * 8 + d.f1.toNat) := by omega
              simp only [List.getElem_toArray, List.getElem_cons_zero, List.getElem_cons_succ] at e0 e1
              clear hW1 hgd
              go_region
              go_wp2
              go_roundw
              case rel => exact ⟨k + 1, by omega, by go_num, ((t1.far (by dsimp only; omega) _).far (by dsimp only; omega) _ : Blk _ w.heap.size 48 _), ((z1.far (by dsimp only; omega) _).far (by dsimp only; omega) _ : Blk _ g4 134 _), by rw [HS.out, ← boolCells_set, ← boolCells_set]; exact (y1.set _ _).set _ _, ((B1.setCell (p := ⟨g5, d.f0.toNat * 8 + d.f1.toNat, none⟩) (by dsimp only; omega) _).setCell (p := ⟨g5, d.f1.toNat * 8 + d.f0.toNat, none⟩) (by dsimp only; omega) _).drew⟩
              case measure => simp [intOf]; omega
        · obtain rfl : k = ls.length := by omega
          have HL : Hid (linkK all ls ls.length = linkK all ls ls.length) := rfl
          go_wp2
          go_loopg [9] 65 (fun m u wr => ∃ xs : List Bool, Hid (xs.length = 64) ∧ Hid (fixL m xs = tiesL all ls) ∧ Hid (64 < xs.countP id + m) ∧ Blk wr g4 134 (boolCells zeros64) ∧ Blk wr g5 134 (boolCells xs) ∧ Below w.heap.size w wr)
          case atStart => exact ⟨linkK all ls ls.length, linkK_len _ _ _, rfl, (by show 64 < _ + 65; omega), zk, yk, Bk⟩
          case round =>
            clear zk yk Bk
            obtain ⟨xs, hx, hf, hc, zk, yk, Bk⟩ := hrel
            have hcl : xs.countP id ≤ 64 := by have := List.countP_le_length (p := id) (l := xs); have := hx.out; omega
            obtain ⟨m, hm⟩ : ∃ m, gk = m + 1 := ⟨gk - 1, by have := hc.out; omega⟩
            subst hm
            have hfx : Hid ((furtherL xs).length = 64) := by show (furtherL xs).length = 64; rw [furtherL_len, hx.out]
            have hguard : Try.prog.eqGuardType Try.prog.depth 134 = false := by kernel_rfl
            have heq := fun w => eql134 xs (furtherL xs) hx.out hfx.out w
            have hz5 := zk.lt
            have hy5 := yk.lt
            cases hs : eqB xs (furtherL xs) with
            | true =>
              rw [hs] at heq
              have hR : Hid (tiesL all ls = xs) := by
                show tiesL all ls = xs
                have := (eqB_iff _ _ hx.out hfx.out).1 hs
                rw [← hf.out, fixL, if_pos this.symm]
              go_wp2_with (first
                | ((with_reducible refine gate_dst (N := 43) rfl ?_); refine ev_load_row (N := 43) rfl rfl 134 _ rfl g5 rfl (t := 134) (cs := boolCells xs) yk Try.underlying134 ((HI _).out hx.out) ?_)
                | (go_at_call 126; refine (further_any xs _ hx.out).mono ?_; rintro e w6 ⟨rfl, hb6⟩; have z6 := zk.below hb6 zk.lt; have y6 := yk.below hb6 yk.lt; have B6 : Below w.heap.size w w6 := Bk.trans (hb6.mono Bk.size))
                | ((with_reducible refine gate_dst (N := 9) rfl ?_); refine box_event rfl (N := 9) rfl (cs := boolCells zeros64) (t := 134) (alloc134 _ _ rfl _) ?_; intro g9 hg9 w7 hb9 hB7; have z7 := z6.below hB7 z6.lt; have y7 := y6.below hB7 y6.lt; have v7 : Blk w7 g9 134 (boolCells zeros64) := hb9; have G9 : g5 < g9 := (by have := y6.lt; omega); have B7 : Below w.heap.size w w7 := B6.trans (hB7.mono B6.size); clear hb9 hB7 hg9)
                | ((with_reducible refine gate_store (t := 134) (p := 9) rfl ?_); refine ev_store_row rfl 134 _ _ rfl rfl g9 (boolCells (furtherL xs)) rfl rfl v7 ((HI _).out hfx.out) (by rw [boolCells_size, boolCells_size, hfx.out, h64.out]) (boolCells_one _) ?_; intro w8 v8 hg8; have z8 := z7.grown hg8 (by simp; omega); have y8 := y7.grown hg8 (by simp; omega); have B8 : Below w.heap.size w w8 := B7.grown hg8 B7.size (by intro k e; cases e; omega); clear hg8)
                | ((with_reducible refine gate_dst (N := 45) rfl ?_); refine ev_load_row (N := 45) rfl rfl 134 _ rfl g5 rfl (t := 134) (cs := boolCells xs) y8 Try.underlying134 ((HI _).out hx.out) ?_)
                | ((with_reducible refine gate_dst (N := 46) rfl ?_); refine ev_load_row (N := 46) rfl rfl 134 _ rfl g9 rfl (t := 134) (cs := boolCells (furtherL xs)) v8 Try.underlying134 ((HI _).out hfx.out) ?_)
                | ((with_reducible refine gate_dst (N := 48) rfl ?_); refine ev_load_row (N := 48) rfl rfl 134 _ rfl g5 rfl (t := 134) (cs := boolCells xs) y8 Try.underlying134 ((HI _).out hx.out) ?_)
                | ((with_reducible refine gate_store (t := 134) (p := 4) rfl ?_); refine ev_store_row rfl 134 _ _ rfl rfl g4 (boolCells xs) rfl rfl z8 ((HI _).out hx.out) (by rw [boolCells_size, boolCells_size, hx.out, h64.out]) (boolCells_one _) ?_; intro w9 z9 hg9; have B9 : Below w.heap.size w w9 := B8.grown hg9 B8.size (by intro k e; cases e; omega); clear hg9))
              refine bodyPost_ret (v := .agg (boolCells xs)) ?_ rfl ?_
              · exact results_cell_row rfl _ _ g4 134 (boolCells xs) (0, 0) _ rfl z9 Try.underlying134 rfl ((HI _).out hx.out)
              · exact ⟨by rw [hR.out], B9⟩
            | false =>
              rw [hs] at heq
              have hne : Hid (xs ≠ furtherL xs) := by
                show xs ≠ furtherL xs
                intro e
                rw [(eqB_iff _ _ hx.out hfx.out).2 e] at hs
                cases hs
              have hR : Hid (fixL m (furtherL xs) = tiesL all ls) := by
                show fixL m (furtherL xs) = tiesL all ls
                have := hf.out
                rwa [fixL, if_neg (fun e => hne.out e.symm)] at this
              have hC : Hid (64 < (furtherL xs).countP id + m) := by
                show 64 < (furtherL xs).countP id + m
                have := (leB_cnt (furtherL_le xs)).2 hne.out
                have := hc.out
                omega
              go_wp2_with (first
                | ((with_reducible refine gate_dst (N := 43) rfl ?_); refine ev_load_row (N := 43) rfl rfl 134 _ rfl g5 rfl (t := 134) (cs := boolCells xs) yk Try.underlying134 ((HI _).out hx.out) ?_)
                | (go_at_call 126; refine (further_any xs _ hx.out).mono ?_; rintro e w6 ⟨rfl, hb6⟩; have z6 := zk.below hb6 zk.lt; have y6 := yk.below hb6 yk.lt; have B6 : Below w.heap.size w w6 := Bk.trans (hb6.mono Bk.size))
                | ((with_reducible refine gate_dst (N := 9) rfl ?_); refine box_event rfl (N := 9) rfl (cs := boolCells zeros64) (t := 134) (alloc134 _ _ rfl _) ?_; intro g9 hg9 w7 hb9 hB7; have z7 := z6.below hB7 z6.lt; have y7 := y6.below hB7 y6.lt; have v7 : Blk w7 g9 134 (boolCells zeros64) := hb9; have G9 : g5 < g9 := (by have := y6.lt; omega); have B7 : Below w.heap.size w w7 := B6.trans (hB7.mono B6.size); clear hb9 hB7 hg9)
                | ((with_reducible refine gate_store (t := 134) (p := 9) rfl ?_); refine ev_store_row rfl 134 _ _ rfl rfl g9 (boolCells (furtherL xs)) rfl rfl v7 ((HI _).out hfx.out) (by rw [boolCells_size, boolCells_size, hfx.out, h64.out]) (boolCells_one _) ?_; intro w8 v8 hg8; have z8 := z7.grown hg8 (by simp; omega); have y8 := y7.grown hg8 (by simp; omega); have B8 : Below w.heap.size w w8 := B7.grown hg8 B7.size (by intro k e; cases e; omega); clear hg8)
                | ((with_reducible refine gate_dst (N := 45) rfl ?_); refine ev_load_row (N := 45) rfl rfl 134 _ rfl g5 rfl (t := 134) (cs := boolCells xs) y8 Try.underlying134 ((HI _).out hx.out) ?_)
                | ((with_reducible refine gate_dst (N := 46) rfl ?_); refine ev_load_row (N := 46) rfl rfl 134 _ rfl g9 rfl (t := 134) (cs := boolCells (furtherL xs)) v8 Try.underlying134 ((HI _).out hfx.out) ?_)
                | ((with_reducible refine gate_dst (N := 49) rfl ?_); refine ev_load_row (N := 49) rfl rfl 134 _ rfl g9 rfl (t := 134) (cs := boolCells (furtherL xs)) v8 Try.underlying134 ((HI _).out hfx.out) ?_)
                | ((with_reducible refine gate_store (t := 134) (p := 5) rfl ?_); refine ev_store_row rfl 134 _ _ rfl rfl g5 (boolCells (furtherL xs)) rfl rfl y8 ((HI _).out hfx.out) (by rw [boolCells_size, boolCells_size, hx.out, hfx.out]) (boolCells_one _) ?_; intro w9 y9 hg9; have z9 := z8.grown hg9 (by simp; omega); have B9 : Below w.heap.size w w9 := B8.grown hg9 B8.size (by intro k e; cases e; omega); clear hg9))
              go_roundg m
              case measure => omega
              case rel => exact ⟨furtherL xs, hfx, hR, hC, z9, y9, B9⟩
end Go.Proofs.Ytkdlbocjgbmbdaa.Print

namespace Go.Proofs.Ytkdlbocjgbmbdaa.Print
open Go.RowKit Go.Shelf
section
variable {F : Fence} {nF : Nat} {P : Program} {md : Region.Mode} {C : World → Prop} {l : List Oper} {n : Nat}
def backB (md : Region.Mode) (l : List Oper) (n : Nat) : Bool :=
  (List.range n).all fun j => match l[j]? with | some o => o.guard.isNone && o.after.all fun e => !Region.binds md e || decide (e.on < j) | none => true
def classTailB (l : List Oper) (n : Nat) : Bool :=
  backB .any l n && decide (n < l.length) && Region.lexB .any (l.take n).toArray && Region.sinkB .any l.toArray n && Region.chainB .any l.toArray n && Region.seqB .any l.toArray (l.length - n) n ((List.replicate n true).toArray ++ Array.replicate (l.length - n) false)
theorem backB_spec (h : backB md l n = true) {j : Nat} {o : Oper} (hj : j < n) (ho : l[j]? = some o) : o.guard = none ∧ ∀ e ∈ o.after, Region.binds md e = true → e.on < j := by
  have := List.all_eq_true.1 h j (List.mem_range.2 hj)
  rw [ho] at this
  simp only [Bool.and_eq_true, Option.isNone_iff_eq_none] at this
  refine ⟨this.1, fun e he hb => ?_⟩
  have h2 := Array.all_eq_true'.1 this.2 e he
  rw [hb] at h2
  simpa using h2
theorem head_comes (hb : backB md l n = true) (hn : n ≤ l.length) {listed : Array Bool} (hsz : listed.size = l.length) : ∀ j, j < n → listed.getD j true = false → ∃ i, i < n ∧ i ∈ Region.ready md l.toArray listed := by
  intro j
  induction j using Nat.strongRecOn with
  | _ j ih =>
    intro hj hun
    obtain ⟨o, ho⟩ : ∃ o, l[j]? = some o := ⟨l[j]'(by omega), List.getElem?_eq_getElem (by omega)⟩
    have hsp := (backB_spec hb hj ho).2
    by_cases hall : ∀ e ∈ o.after, Region.binds md e = true → listed.getD e.on false = true
    · exact ⟨j, hj, mem_ready.2 ⟨hun, o, by simpa using ho, hall⟩⟩
    · simp only [Classical.not_forall] at hall
      obtain ⟨e, he, hbe, hl⟩ := hall
      have hlt := hsp e he hbe
      refine ih e.on hlt (by omega) (getD_in (by omega) (by simpa using hl))
theorem ready_head {listed lH : Array Bool} (hn : n ≤ l.length) (hb : backB md l n = true) (he : ∀ j d, j < n → listed.getD j d = lH.getD j d) {i : Nat} (hi : i < n) : i ∈ Region.ready md l.toArray listed ↔ i ∈ Region.ready md (l.take n).toArray lH := by
  obtain ⟨o, ho⟩ : ∃ o, l[i]? = some o := ⟨l[i]'(by omega), List.getElem?_eq_getElem (by omega)⟩
  have ho2 : (l.take n)[i]? = some o := by rw [List.getElem?_take, if_pos hi, ho]
  have hsp := (backB_spec hb hi ho).2
  rw [mem_ready, mem_ready, he i true hi]
  constructor
  · rintro ⟨h1, o', ho', h2⟩
    have : o' = o := by rw [List.getElem?_toArray, ho] at ho'; exact (Option.some.inj ho').symm
    subst this
    exact ⟨h1, o', by simpa using ho2, fun e hee hbe => by rw [← he e.on false (by have := hsp e hee hbe; omega)]; exact h2 e hee hbe⟩
  · rintro ⟨h1, o', ho', h2⟩
    have : o' = o := by rw [List.getElem?_toArray, ho2] at ho'; exact (Option.some.inj ho').symm
    subst this
    exact ⟨h1, o', by simpa using ho, fun e hee hbe => by rw [he e.on false (by have := hsp e hee hbe; omega)]; exact h2 e hee hbe⟩
theorem anyIn_of_heads {g : Nat} {Good : Act → Prop} {Q : Exit → Act → World → Prop} (hro : F.round = none) (hn : n < l.length) (hb : backB md l n = true) (hs : Region.sinkB md l.toArray n = true) (hc : Region.chainB md l.toArray n = true)
    (hK : ∀ (listed : Array Bool) a w, C w → Good a → listed.size = l.length → (∀ j, j < n → listed.getD j true = true) → (∀ j, n ≤ j → j < l.length → listed.getD j true = false) → wpAnyIn F nF P md l.toArray Q g listed a w) :
    ∀ (fuel : Nat) (lH listed : Array Bool) (a : Act) (w : World), HeadInv md l.toArray n listed → (∀ j d, j < n → listed.getD j d = lH.getD j d) → lH.size = n → lH.count false = fuel → C w →
      wpAnyQIn F nF P md (l.take n).toArray C Good fuel lH a → wpAnyIn F nF P md l.toArray Q (fuel + g) listed a w := by
  intro fuel
  induction fuel with
  | zero =>
    intro lH listed a w inv he hsz hcnt hw h
    rw [Nat.zero_add]
    refine hK listed a w hw h.2 (by simpa using inv.size) (fun j hj => ?_) (fun j h1 h2 => inv.tail j h1 (by simpa using h2))
    rw [he j true hj]
    cases hv : lH.getD j true with
    | true => rfl
    | false =>
      have hj' : j < lH.size := by omega
      have hm : false ∈ lH := by
        rw [Array.getD_eq_getD_getElem?, Array.getElem?_eq_getElem hj'] at hv
        exact Array.mem_iff_getElem.2 ⟨j, hj', by simpa using hv⟩
      have := Array.count_pos_iff.2 hm
      omega
  | succ fuel ih =>
    intro lH listed a w inv he hsz hcnt hw h
    have hpos : false ∈ lH := Array.count_pos_iff.1 (by omega)
    obtain ⟨j, hj, hjv⟩ := Array.mem_iff_getElem.1 hpos
    have hjun : listed.getD j true = false := by
      rw [he j true (by omega), Array.getD_eq_getD_getElem?, Array.getElem?_eq_getElem hj]; simpa using hjv
    have hls : listed.size = l.length := by simpa using inv.size
    obtain ⟨i0, hi0, hr0⟩ := head_comes hb (by omega) hls j (by omega) hjun
    rw [show fuel + 1 + g = (fuel + g) + 1 by omega]
    refine ⟨fun h0 => (by rw [h0] at hr0; cases hr0), fun i hi => ?_⟩
    have hin : i < n := by
      rcases Nat.lt_or_ge i n with h' | h'
      · exact h'
      · exact absurd hi (tail_waits hs hc (by simpa using hn) inv _ j rfl (by omega) hjun i h')
    have hiH := (ready_head (by omega) hb he hin).1 hi
    have hq := h.2 i hiH
    obtain ⟨o, ho⟩ : ∃ o, l[i]? = some o := ⟨l[i]'(by omega), List.getElem?_eq_getElem (by omega)⟩
    have ho2 : (l.take n)[i]? = some o := by rw [List.getElem?_take, if_pos hin, ho]
    have hg := (backB_spec hb hin ho).1
    unfold qOpIn at hq
    simp only [List.getElem?_toArray, ho2] at hq
    have hwant : ∀ y, Region.wanted o y = true := fun y => by unfold Region.wanted; rw [hg]
    rw [if_pos (hwant _)] at hq
    unfold wpOpIn
    simp only [List.getElem?_toArray, ho]
    rw [if_pos (hwant _)]
    have hun : lH.getD i true = false := (mem_ready.1 hiH).1
    have hiS : i < lH.size := by omega
    have hval : lH[i] = false := by
      rw [Array.getD_eq_getD_getElem?, Array.getElem?_eq_getElem hiS] at hun; simpa using hun
    refine Oper.wpIn_of_quiet hro hw (fun a' w' hw' hk => ih (lH.setIfInBounds i true) _ a' w' (inv.set hi hin) (fun k d hk => ?_) (by simpa using hsz) ?_ hw' hk) hq.1 hq.2
    · by_cases hki : i = k
      · subst hki
        simp only [Array.getD_eq_getD_getElem?]
        rw [Array.getElem?_setIfInBounds_self_of_lt (by omega), Array.getElem?_setIfInBounds_self_of_lt (by omega)]
      · rw [getD_set_ne d hki, getD_set_ne d hki]
        exact he k d hk
    · rw [Array.setIfInBounds_def, dif_pos hiS, Array.count_set, hval, hcnt]
      simp
theorem anyIn_of_seq {ops : Array Oper} {Q : Exit → Act → World → Prop} : ∀ (r : List Oper) (k : Nat) (listed : Array Bool) (a : Act) (w : World), (∀ j, r[j]? = ops[k + j]?) →
    Region.seqB md ops r.length k listed = true → wpListIn F nF P ops Q r a w → wpAnyIn F nF P md ops Q r.length listed a w
  | [], _, _, _, _, _, hB, h => ⟨by simpa [Region.seqB] using hB, h⟩
  | o :: r, k, listed, a, w, hl, hB, h => by
    have h0 : ops[k]? = some o := by simpa using (hl 0).symm
    simp only [List.length_cons, Region.seqB, Bool.and_eq_true, decide_eq_true_eq] at hB
    refine ⟨fun h1 => (by rw [hB.1] at h1; cases h1), fun i hi => ?_⟩
    rw [hB.1] at hi
    obtain rfl : i = k := by simpa using hi
    refine wpOpIn_mono (fun a' w' h' => anyIn_of_seq r (i + 1) _ a' w' (fun j => by have := hl (j + 1); simpa [Nat.add_assoc, Nat.add_comm 1 j] using this) hB.2 h') ?_
    unfold wpOpIn
    simp only [h0]
    exact h
theorem listed_end {listed : Array Bool} {m : Nat} (hn : n ≤ m) (hsz : listed.size = m) (h1 : ∀ j, j < n → listed.getD j true = true) (h2 : ∀ j, n ≤ j → j < m → listed.getD j true = false) : listed = (List.replicate n true).toArray ++ Array.replicate (m - n) false := by
  apply Array.ext
  · simp; omega
  · intro i hi1 hi2
    by_cases hin : i < n
    · have := h1 i hin
      rw [Array.getD_eq_getD_getElem?, Array.getElem?_eq_getElem hi1] at this
      rw [Array.getElem_append_left (by simpa using hin)]
      simpa using this
    · have := h2 i (by omega) (by omega)
      rw [Array.getD_eq_getD_getElem?, Array.getElem?_eq_getElem hi1] at this
      rw [Array.getElem_append_right (by simp; omega)]
      simpa using this
theorem class_tail_any {Q : Exit → Act → World → Prop} {a : Act} {w : World} (n : Nat) (hro : F.round = none) (hB : classTailB l n = true) (hC : C w)
    (h : wpQuietIn F nF P (l.take n).toArray C (fun a' => ∀ w', C w' → wpListIn F nF P l.toArray Q (l.drop n) a' w') (l.take n) a) : wpAnyIn F nF P .any l.toArray Q l.toArray.size (Array.replicate l.toArray.size false) a w := by
  simp only [classTailB, Bool.and_eq_true, decide_eq_true_eq] at hB
  obtain ⟨⟨⟨⟨⟨hb, hn⟩, hlex⟩, hs⟩, hc⟩, hseq⟩ := hB
  simp only [Region.lexB, Bool.and_eq_true] at hlex
  have htl : (l.take n).length = n := by simp; omega
  have hQ := wpAnyQIn_lex (F := F) (n := nF) (C := C) (md := .any) hlex.1 (l.take n) 0 (Array.replicate n false) a (by simp) (by have := hlex.2; simpa [htl] using this) h
  rw [htl] at hQ
  have inv0 : HeadInv .any l.toArray n (Array.replicate l.toArray.size false) :=
    ⟨by simp, fun j oj _ hl => (by rw [getD_replicate_false] at hl; cases hl), fun t _ ht => getD_in (by simpa using ht) (getD_replicate_false _ _)⟩
  have H := anyIn_of_heads (F := F) (nF := nF) (P := P) (md := .any) (C := C) (l := l) (n := n) (g := l.length - n) (Q := Q) hro hn hb hs hc (fun listed a' w' hw' hgood hsz h1 h2 => by
    have e := listed_end (Nat.le_of_lt hn) hsz h1 h2
    have hd : (l.drop n).length = l.length - n := by simp
    rw [← hd]
    refine anyIn_of_seq (l.drop n) n listed a' w' (fun j => by simp [List.getElem?_drop]) ?_ (hgood w' hw')
    rw [hd, e]
    exact hseq) n (Array.replicate n false) (Array.replicate l.toArray.size false) a w inv0 (fun j d hj => by
      simp only [Array.getD_eq_getD_getElem?]
      rw [Array.getElem?_replicate, Array.getElem?_replicate, if_pos (by simp; omega), if_pos hj]) (by simp) (by simp) hC hQ
  rw [show n + (l.length - n) = l.toArray.size by simp; omega] at H
  exact H
theorem wpIn_region_class_tail_round {id r : Nat} {Q : Exit → Act → World → Prop} {a : Act} {w : World} (n : Nat) (C : World → Prop) (hro : F.round = none) (hm : P.follows .mixedOrders = true) (hB : classTailB l n = true) (hnd : noDefer l.toArray = true) (hC : C { w with drawn := w.drawn + 1 })
    (h : wpQuietIn F nF P (l.take n).toArray C (fun a' => ∀ w', C w' → wpListIn F nF P l.toArray Q (l.drop n) a' w') (l.take n) a) : (Code.region id l.toArray true).wpIn (F.inRound r) nF P Q a w := by
  refine wpIn_region_draw fun t => wpOpsIn_round hro hnd _ _ _ ?_
  simp only [Region.schedule, hm, Bool.true_or, if_true]
  exact wpAnyIn_sound l.toArray.size t _ a _ (class_tail_any n hro hB hC h)
/-- The class 'nothing below n has turned since w'. -/
theorem below_drawn (w : World) : Below w.heap.size w { w with drawn := w.drawn + 1 } := ⟨rfl, rfl, rfl, Nat.le_refl _, fun _ _ => rfl⟩
end
end Go.Proofs.Ytkdlbocjgbmbdaa.Print

namespace Go.Proofs.Ytkdlbocjgbmbdaa.Print
open Go.RowKit Go.Shelf
theorem law142 : Maps.Keyed Try.prog 142 := Maps.Keyed.of_law (deep_law_laid (P := Try.prog) (by kernel_rfl) (m := 2) (by omega) (k := 142) (of_decide_eq_true (by kernel_rfl)) (by kernel_rfl) (by rw [Try.underlying142]))
def W64 (x : Int) : Prop := -9223372036854775808 ≤ x ∧ x ≤ 9223372036854775807
def whenV (x y : Int) : Value := .agg #[.int .i64 x, .int .i64 y]
def whenK (x y : Int) : Lit := .string (keyBytes [.int .i64 x, .int .i64 y])
theorem wf64 {x : Int} (h : W64 x) : (Lit.int .i64 x).wf = true := by
  obtain ⟨h1, h2⟩ := h
  simp [Lit.wf, IntKind.min, IntKind.max, IntKind.signed, IntKind.bits]
  omega
theorem whenK_eq {x y : Int} (hx : W64 x) (hy : W64 y) : keyOf Try.prog 142 (whenV x y) = some (whenK x y) := by
  have hs : 142 < Try.prog.types.size := of_decide_eq_true (by kernel_rfl)
  have hc : Try.prog.cellsOf 142 = 2 := by kernel_rfl
  have hc3 : Try.prog.cellsOf 3 = 1 := by kernel_rfl
  have hk : Try.prog.keyType 142 = true := by kernel_rfl
  obtain ⟨m, hm⟩ : ∃ m, Try.prog.types.size = m + 1 := ⟨Try.prog.types.size - 1, by omega⟩
  unfold keyOf
  rw [Try.underlying142]
  simp only [hk, Value.formed, whenV, Try.underlying142, hc, Bool.true_and]
  rw [hm]
  simp [Program.keyLits, Try.underlying142, Try.underlying3, hc, hc3, Value.cells, wf64 hx, wf64 hy, whenK]
theorem whenK_inj {x y x' y' : Int} (hx : W64 x) (hy : W64 y) (hx' : W64 x') (hy' : W64 y') (h : whenK x y = whenK x' y') : x = x' ∧ y = y' := by
  have := law142.inj (whenK_eq hx hy) (h ▸ whenK_eq hx' hy')
  simpa [whenV] using this
def IMap (W : World) (b n : Nat) (m : Int → Int → Option Int) : Prop :=
  ∃ D : DataW Unit, W.ownsMap Try.prog 142 (plainElem Try.prog 3) b n D ∧ ∀ x y, W64 x → W64 y → Maps.has D (whenK x y) = (m x y).isSome ∧ D.atKey (whenK x y) (.lit (.int .i64 0)) = .lit (.int .i64 ((m x y).getD 0))
theorem imap_made {W : World} {b : Nat} (h : W.heap.size = b) : IMap (W.alloc (.map #[] 0)) b 0 (fun _ _ => none) := by
  subst h
  exact ⟨.map [], World.ownsMap_made _ _ _ _, fun x y _ _ => ⟨rfl, rfl⟩⟩
theorem IMap.lt {W : World} {b n : Nat} {m} (h : IMap W b n m) : b < W.heap.size := by obtain ⟨D, h, _⟩ := h; exact h.lt
theorem IMap.mono {W : World} {b n n' : Nat} {m} (h : IMap W b n m) (hn : n ≤ n') : IMap W b n' m := by obtain ⟨D, h, h2⟩ := h; exact ⟨D, h.mono hn, h2⟩
theorem IMap.ext {W : World} {b n : Nat} {m m' : Int → Int → Option Int} (h : IMap W b n m) (he : ∀ x y, W64 x → W64 y → m x y = m' x y) : IMap W b n m' := by
  obtain ⟨D, h, h2⟩ := h; exact ⟨D, h, fun x y hx hy => by rw [← he x y hx hy]; exact h2 x y hx hy⟩
theorem IMap.at_heap {W W' : World} {b n : Nat} {m} (h : IMap W b n m) (he : W'.heap[b]? = W.heap[b]?) : IMap W' b n m := by
  obtain ⟨D, ⟨es, clock, hb, h⟩, h2⟩ := h
  exact ⟨D, ⟨es, clock, he.trans hb, h⟩, h2⟩
theorem IMap.below {W W' : World} {b n k : Nat} {m} (h : IMap W b n m) (hb : Below k W W') (hk : b < k) : IMap W' b n m := h.at_heap (hb.block b hk)
theorem IMap.grown {W W' : World} {b n : Nat} {row : Option Nat} {m} (h : IMap W b n m) (hg : W.grownBy W' row) (hne : some b ≠ row) : IMap W' b n m := h.at_heap (hg.block b h.lt hne)
theorem IMap.drewN {W : World} {b n : Nat} {m} (h : IMap W b n m) (k : Nat) : IMap (W.drewN k) b n m := h
theorem IMap.far {W : World} {b n : Nat} {m} (h : IMap W b n m) {p : Addr} (hp : b ≠ p.block) (u : Value) : IMap (W.setCell p u) b n m := h.at_heap (Below.heap_setCell W p u b hp)
theorem IMap.alloc {W : World} {b n : Nat} {m} (h : IMap W b n m) (o : Obj) : IMap (W.alloc o) b n m := h.at_heap (Below.heap_alloc _ _ _ h.lt)
def mput (m : Int → Int → Option Int) (x y v : Int) : Int → Int → Option Int := fun x' y' => if x' = x ∧ y' = y then some v else m x' y'
theorem zero3 (W : World) : (zeroValue 3).run Try.prog W = .ok (.int .i64 0) W := by kernel_rfl
section
variable {F : Fence} {nF : Nat} {ops : Array Oper} {rest : List Oper} {o : Oper} {a : Act} {Q : Exit → Act → World → Prop} {W : World}
theorem in_look_ok (hg : o.guard = none) (mo xo : Operand) (hop : o.op = Op.lookup 140 mo xo true) {b n : Nat} {m} (hm : a.eval mo = .map (some b)) (h : IMap W b n m) {x y : Int} (hx : W64 x) (hy : W64 y) (hk : a.eval xo = whenV x y)
    (hK : wpListIn F nF Try.prog ops Q rest (a.put o.dst (.tuple #[.int .i64 ((m x y).getD 0), .bool (m x y).isSome])) W) : wpListIn F nF Try.prog ops Q (o :: rest) a W := by
  obtain ⟨D, hown, hD⟩ := h
  refine wpListIn_lookup_own_ok_int W hg mo xo 140 hop 142 3 .i64 law142 Try.underlying140 Try.underlying3 (zero3 W) b n D hm hown _ _ hk (whenK_eq hx hy) fun c hat _ => ?_
  obtain ⟨h1, h2⟩ := hD x y hx hy
  rw [h2] at hat
  rw [h1]
  injection hat with e
  injection e with _ e
  rw [← e]
  exact hK
theorem imap_put {D : DataW Unit} (hD : Maps.IsMap D) {m : Int → Int → Option Int} (h : ∀ x y, W64 x → W64 y → Maps.has D (whenK x y) = (m x y).isSome ∧ D.atKey (whenK x y) (.lit (.int .i64 0)) = .lit (.int .i64 ((m x y).getD 0)))
    {x y v : Int} (hx : W64 x) (hy : W64 y) : ∀ x' y', W64 x' → W64 y' → Maps.has (D.put (whenK x y) (.lit (.int .i64 v))) (whenK x' y') = (mput m x y v x' y').isSome ∧ (D.put (whenK x y) (.lit (.int .i64 v))).atKey (whenK x' y') (.lit (.int .i64 0)) = .lit (.int .i64 ((mput m x y v x' y').getD 0)) := by
  intro x' y' hx' hy'
  have hkey : WideAt.IsKeyLit (whenK x y) := law142.key (whenK_eq hx hy)
  by_cases he : x' = x ∧ y' = y
  · obtain ⟨rfl, rfl⟩ := he
    rw [Maps.has_put_same hD hkey, Maps.atKey_put_same hD hkey]
    simp [mput]
  · have hne : whenK x' y' ≠ whenK x y := fun e => he (whenK_inj hx' hy' hx hy e)
    rw [Maps.has_put_other hne, Maps.atKey_put_other hne]
    simp only [mput, if_neg he]
    exact h x' y' hx' hy'
theorem in_put (hg : o.guard = none) (mo xo vo : Operand) (hop : o.op = Op.mapUpdate 140 mo xo vo) {b n : Nat} {m} (hm : a.eval mo = .map (some b)) (h : IMap W b n m) (hn : n < 1000000) {x y v : Int} (hx : W64 x) (hy : W64 y) (hv : W64 v) (hk : a.eval xo = whenV x y) (hvv : a.eval vo = .int .i64 v)
    (hK : ∀ W', IMap W' b (n + 1) (mput m x y v) → W.grownBy W' (some b) → wpListIn F nF Try.prog ops Q rest (a.put o.dst undef) W') : wpListIn F nF Try.prog ops Q (o :: rest) a W := by
  obtain ⟨D, hown, hD⟩ := h
  refine wpListIn_mapUpdate_own W hg mo xo vo 140 hop 142 3 law142 Try.underlying140 (plainElem Try.prog 3) b n D hm hown (by unfold maxLen; omega) _ _ _ hk hvv (whenK_eq hx hy) (.lit (.int .i64 v)) [] (plainElem_int Try.underlying3 (wf64 hv)) fun W' h1 h2 => ?_
  exact hK W' ⟨_, h1, imap_put hown.isMap hD hx hy⟩ h2
end
end Go.Proofs.Ytkdlbocjgbmbdaa.Print

namespace Go.Proofs.Ytkdlbocjgbmbdaa.Print
open Go.RowKit Go.Shelf
def Ext (W : World) := { W' : World // Below W.heap.size W W' }
instance ext_some (W : World) : Nonempty (Ext W) := ⟨⟨W, Below.refl _ _⟩⟩
theorem ext_drawn (W : World) : ∃ x : Ext W, { W with drawn := W.drawn + 1 } = x.1 := ⟨⟨_, below_drawn W⟩, rfl⟩
theorem ext_cell {W : World} {p : Addr} {v : Value} (h : W.cell? p = some v) (x : Ext W) : x.1.cell? p = some v := (x.2.cell (World.block_lt_of_cell? W p h)).trans h
theorem ext_blk {W : World} {B : Nat} {t : TypeId} {cs : Array Value} (h : Blk W B t cs) (x : Ext W) : Blk x.1 B t cs := h.below x.2 h.lt
theorem ext_go {W : World} {x : Ext W} {w'' : World} (h : Below x.1.heap.size x.1 w'') : ∃ y : Ext W, w'' = y.1 := ⟨⟨w'', x.2.trans (h.mono x.2.size)⟩, rfl⟩
theorem keeps_of_below {W W' : World} (h : Below W.heap.size W W') : KeepsOthers W W' := ⟨h.size, fun k o hk _ => (h.block k (Array.getElem?_eq_some_iff.1 hk).1).trans hk⟩
theorem quietIn_load_row {F : Fence} {n : Nat} {P : Program} {o : Oper} {a : Act} {W : World} {K : Act → Prop} (ty : TypeId) (x : Operand) (ho : o.op = .load ty x) (g : Nat) (hx : a.eval x = .pointer (some ⟨g, 0, none⟩)) {t : TypeId} {cs : Array Value} (hb : Blk W g t cs) {d : TypeDesc}
    (hu : P.underlying ty = some d) (hd : (match d with | .struct _ | .array _ _ => true | _ => false) = true) (hi : (P.info? ty).map (·.size) = some cs.size) (hk : K (a.put o.dst (.agg cs))) : o.quietIn F n P a (fun w' => ∃ x : Ext W, w' = x.1) K := by
  refine ⟨.agg cs, ?_, hk⟩
  rintro _ ⟨y, rfl⟩
  unfold Oper.quietAtIn execOp
  simp only [ho, hx, Instr.loadAt, Instr.sureAddr, Sem.run_bind, Sem.run_pure, Result.andThen_ok, run_loadVar_row y.1 g t ty cs (0, 0) d (ext_blk hb y) hu hd hi]
  exact ⟨rfl, rfl⟩
/-- A region that draws its order: reads and calls that leave the old blocks alone. -/
theorem wp_region_ext {P : Program} {id : Nat} {Q : Exit → Act → World → Prop} {a : Act} {w : World} {l : List Oper} (hm : P.follows .mixedOrders = true) (hB : Region.lexB .any l.toArray = true)
    (h : wpQuietIn Fence.wide 9 P l.toArray (fun w' => ∃ x : Ext w, w' = x.1) (fun a' => ∀ w', (∃ x : Ext w, w' = x.1) → Q .normal a' w') l a) : (Code.region id l.toArray true).wp P Q a w :=
  wpIn_wide.1 (wpIn_region_quiet (C := fun w' => ∃ x : Ext w, w' = x.1) rfl hm hB (ext_drawn w) (by simpa using h))
end Go.Proofs.Ytkdlbocjgbmbdaa.Print

namespace Go.Proofs.Ytkdlbocjgbmbdaa.Print
open Go.RowKit Go.Shelf Go.Proofs.YtkdlbocjgbmbdaaW.PrintWords
set_option linter.unusedVariables false
attribute [local go_sem] Oper.semAt_some
attribute [local go_sem] wide_fn wide_asked
def paidS (names : Int) (ds : List S61) (l : List (Fin ds.length)) (x y : Int) : Bool := decide (0 ≤ x) && decide (x < names) && l.any (fun i => decide (ds[i].f0 = y))
def paidV (xs : List Bool) (window : Int) (ds : List S61) (x y : Int) : Int := sumWin xs window x y ds (cashI ds ds.length)
def paidM (xs : List Bool) (names window : Int) (ds : List S61) (l : List (Fin ds.length)) (x y : Int) : Option Int :=
  if paidS names ds l x y then some (paidV xs window ds x y) else none
def partM (xs : List Bool) (names window : Int) (ds : List S61) (l : List (Fin ds.length)) (dy k : Int) (x y : Int) : Option Int :=
  if paidS names ds l x y || (decide (0 ≤ x) && decide (x < k) && decide (y = dy)) then some (paidV xs window ds x y) else none
section
variable {xs : List Bool} {names window : Int} {ds : List S61} {l : List (Fin ds.length)} {dy k : Int}
theorem part_zero (x y : Int) : paidM xs names window ds l x y = partM xs names window ds l dy 0 x y := by
  have : (decide (0 ≤ x) && decide (x < 0) && decide (y = dy)) = false := by
    by_cases h : 0 ≤ x
    · have : ¬ x < 0 := by omega
      simp [this]
    · simp [h]
  simp only [paidM, partM, this, Bool.or_false]
theorem part_end (i : Fin ds.length) (hd : ds[i].f0 = dy) (x y : Int) : partM xs names window ds l dy names x y = paidM xs names window ds (l ++ [i]) x y := by
  have : (paidS names ds l x y || (decide (0 ≤ x) && decide (x < names) && decide (y = dy))) = paidS names ds (l ++ [i]) x y := by
    simp only [paidS, List.any_append, List.any_cons, List.any_nil, Bool.or_false, hd]
    rw [Bool.and_or_distrib_left]
    congr 2
    exact decide_eq_decide.2 ⟨Eq.symm, Eq.symm⟩
  simp only [paidM, partM, this]
theorem part_have (hk : 0 ≤ k) (h : (partM xs names window ds l dy k k dy).isSome = true) (x y : Int) : partM xs names window ds l dy k x y = partM xs names window ds l dy (k + 1) x y := by
  have hS : paidS names ds l k dy = true := by
    unfold partM at h
    have : (decide (0 ≤ k) && decide (k < k) && decide (dy = dy)) = false := by simp
    rw [this, Bool.or_false] at h
    cases hp : paidS names ds l k dy with
    | true => rfl
    | false => rw [hp] at h; simp at h
  unfold partM
  by_cases he : x = k ∧ y = dy
  · obtain ⟨rfl, rfl⟩ := he
    rw [hS]; simp
  · have : (decide (0 ≤ x) && decide (x < k) && decide (y = dy)) = (decide (0 ≤ x) && decide (x < k + 1) && decide (y = dy)) := by
      by_cases hy : y = dy
      · have hx : x ≠ k := fun e => he ⟨e, hy⟩
        have : decide (x < k) = decide (x < k + 1) := decide_eq_decide.2 (by omega)
        rw [this]
      · simp [hy]
    rw [this]
theorem part_put (hk : 0 ≤ k) (x y : Int) : mput (partM xs names window ds l dy k) k dy (paidV xs window ds k dy) x y = partM xs names window ds l dy (k + 1) x y := by
  unfold mput partM
  by_cases he : x = k ∧ y = dy
  · obtain ⟨rfl, rfl⟩ := he
    have : (decide (0 ≤ x) && decide (x < x + 1) && decide (y = y)) = true := by simp; omega
    rw [if_pos ⟨rfl, rfl⟩, this, Bool.or_true, if_pos rfl]
  · have : (decide (0 ≤ x) && decide (x < k) && decide (y = dy)) = (decide (0 ≤ x) && decide (x < k + 1) && decide (y = dy)) := by
      by_cases hy : y = dy
      · have hx : x ≠ k := fun e => he ⟨e, hy⟩
        have : decide (x < k) = decide (x < k + 1) := decide_eq_decide.2 (by omega)
        rw [this]
      · simp [hy]
    rw [if_neg he, this]
end
theorem sumWin_bounds0 (xs : List Bool) (names window name day : Int) (ds : List S61) (hds : ∀ d ∈ ds, OkDue names d) : ∀ (l : List (Fin ds.length)) (s : Int), 0 ≤ s → 0 ≤ l.foldl (fun s i => winStep xs window name day s ds[i]) s ∧ l.foldl (fun s i => winStep xs window name day s ds[i]) s ≤ s + 100000000 * l.length
  | [], s, h => by simp [h]
  | i :: l, s, h => by
    have hd := hds ds[i] (List.getElem_mem _)
    have h1 := hd.cents0
    have h2 := hd.cents1
    have hs : 0 ≤ winStep xs window name day s ds[i] ∧ winStep xs window name day s ds[i] ≤ s + 100000000 := by
      unfold winStep; split <;> constructor <;> omega
    have := sumWin_bounds0 xs names window name day ds hds l _ hs.1
    simp only [List.foldl_cons, List.length_cons]
    refine ⟨this.1, ?_⟩
    have := this.2
    push_cast
    omega
theorem sumWin_bounds (xs : List Bool) (names window name day : Int) (ds : List S61) (hds : ∀ d ∈ ds, OkDue names d) (l : List (Fin ds.length)) : 0 ≤ sumWin xs window name day ds l ∧ sumWin xs window name day ds l ≤ 100000000 * l.length := by
  have := sumWin_bounds0 xs names window name day ds hds l 0 (Int.le_refl _)
  simpa [sumWin] using this
set_option maxRecDepth 100000 in
set_option maxHeartbeats 4000000 in
theorem paid_any (names limit window : Int) (vl vd : Value) (A : Option Addr) (c : Nat) (ds : List S61) (xs : List Bool) (w : World)
    (hC : Kd.C k61 w A ds.length ds) (hxs : xs.length = 64) (hw0 : 1 ≤ window) (hw1 : window ≤ 30) (hds : ∀ d ∈ ds, OkDue names d) (hn0 : 0 ≤ names) (hnames : names ≤ 8) (hlen : ds.length ≤ 1000) :
    Calls Try.prog 127 #[.agg #[.int .i64 names, .int .i64 limit, .int .i64 window, vl, vd], .slice A ds.length c, .agg (boolCells xs)] w fun e w' =>
      ∃ b, e = .returned (.map (some b)) ∧ IMap w' b 8000 (paidM xs names window ds (cashI ds ds.length)) ∧ w.heap.size ≤ b ∧ Below w.heap.size w w' := by
  refine (callsIn_wide (n := 4)).1 ?_
  have h1 : 1 ≤ 4 := by omega
  have hmm := @run_makeMap Try.prog
  refine callsIn_of_wp_marks Try.func127 rfl trivial ?_ rfl
  simp only [Try.ntmps127, List.size_toArray, List.length_cons, List.length_nil, Nat.reduceAdd, Nat.reduceSub, Array.replicate_succ, Array.replicate_zero, List.push_toArray, List.append_toArray, List.nil_append, List.cons_append]
  gi_wp2_with (gi_at_call 125; refine (cash_in Fence.wide _ trivial rfl _ _ _ _).mono ?_; rintro e w' ⟨rfl, rfl⟩)
  clear hmm
  obtain ⟨W0, hW0⟩ : ∃ W0, ((((((w.alloc (.cells #[.int .i64 names, .int .i64 limit, .int .i64 window, vl, vd] 48)).alloc (.cells #[.slice A ds.length c] 46)).alloc (.cells (boolCells xs) 134)).alloc (.map #[] 0)).alloc (.cells #[.map (some (w.heap.size + 1 + 1 + 1))] 140)).alloc (.cells #[.slice A ds.length c] 46)) = W0 := ⟨_, rfl⟩
  have hsz : w.heap.size + 6 ≤ W0.heap.size := by rw [← hW0]; simp
  have hB0 : Below w.heap.size w W0 := by rw [← hW0]; repeat (first | exact Below.refl _ _ | refine below_alloc ?_ _)
  have b0 : Blk W0 w.heap.size 48 #[.int .i64 names, .int .i64 limit, .int .i64 window, vl, vd] := by rw [← hW0]; exact (((((blk_new w 48 _).alloc _).alloc _).alloc _).alloc _).alloc _
  have b1 : Blk W0 (w.heap.size + 1) 46 #[.slice A ds.length c] := by rw [← hW0]; exact ((((blk_new' (by simp)).alloc _).alloc _).alloc _).alloc _
  have b2 : Blk W0 (w.heap.size + 1 + 1) 134 (boolCells xs) := by rw [← hW0]; exact (((blk_new' (by simp)).alloc _).alloc _).alloc _
  have b3 : IMap W0 (w.heap.size + 1 + 1 + 1) 0 (fun _ _ => none) := by
    rw [← hW0]
    exact ((imap_made (W := (((w.alloc _).alloc _).alloc _)) (by simp)).at_heap (by rw [Below.heap_alloc _ _ _ (by simp)]; exact Below.heap_alloc _ _ _ (by simp)))
  have b4 : Blk W0 (w.heap.size + 1 + 1 + 1 + 1) 140 #[.map (some (w.heap.size + 1 + 1 + 1))] := by rw [← hW0]; exact (blk_new' (by simp)).alloc _
  have b5 : W0.cell? ⟨w.heap.size + 1 + 1 + 1 + 1 + 1, 0, none⟩ = some (.slice A ds.length c) := by rw [← hW0]; exact (blk_new' (by simp)).cell 0 rfl
  rw [hW0]
  clear hW0
  have hseq := cash_stops Fence.wide (4 - 1) trivial rfl (by omega) (w.heap.size + 1 + 1 + 1 + 1 + 1) A c ds w W0 b5 hB0 hC
  generalize hg5 : w.heap.size + 1 + 1 + 1 + 1 + 1 = g5 at *
  generalize hg4 : w.heap.size + 1 + 1 + 1 + 1 = g4 at *
  generalize hg3 : w.heap.size + 1 + 1 + 1 = g3 at *
  generalize hg2 : w.heap.size + 1 + 1 = g2 at *
  generalize hg1 : w.heap.size + 1 = g1 at *
  have hml := cashI_len ds ds.length
  refine wpIn_rangeFunc_ownH rfl h1 (gf := 146) (lb := #[.pointer (some ⟨g5, 0, none⟩)]) rfl trivial (enters_of Try.func146 (by kernel_rfl) rfl)
    hseq belowK_t (belowK_b (by omega)) (Below.refl _ _) (fun _ => rfl)
    (fun pre W => (Blk W w.heap.size 48 #[.int .i64 names, .int .i64 limit, .int .i64 window, vl, vd] ∧ Blk W g1 46 #[.slice A ds.length c] ∧ Blk W g2 134 (boolCells xs) ∧ Blk W g4 140 #[.map (some g3)]) ∧ IMap W g3 (8 * pre.length) (paidM xs names window ds pre) ∧ W0.heap.size ≤ W.heap.size ∧ Below w.heap.size w W)
    (fun _ _ _ => False)
    ?hI (fun _ _ _ _ _ hs _ _ => hs) ⟨⟨b0, b1, b2, b4⟩, (b3.mono (by omega)).ext (fun x y _ _ => by simp [paidM, paidS]), Nat.le_refl _, hB0⟩
    (fun i a' W => ∃ Bx, W0.heap.size ≤ Bx ∧ Blk W Bx 61 (dueV ds[i]) ∧ a' = { tmps := #[.agg #[.int .i64 names, .int .i64 limit, .int .i64 window, vl, vd], .slice A ds.length c, .agg (boolCells xs), .pointer (some ⟨w.heap.size, 0, none⟩), .pointer (some ⟨g1, 0, none⟩), .pointer (some ⟨g2, 0, none⟩), .map none, .pointer (some ⟨g4, 0, none⟩), undef, .pointer (some ⟨Bx, 0, none⟩), undef, undef, undef, undef, .map (some g3), .slice A ds.length c, .func (.func 146) #[] #[.pointer (some ⟨g5, 0, none⟩)], .int .i64 (i.1 : Int), .agg (dueV ds[i]), undef, undef, undef, undef, undef, undef, undef, undef, undef, undef, undef, undef, undef, undef, undef, undef, undef, undef, undef, undef, undef, undef, undef, undef, undef, undef, undef], defers := [] })
    ?hAx ?assign ?body ?done ?stop
  case hI =>
    refine OwnFrom.and (Own.from (fun s A B row hs hg hr => ⟨blk_own _ _ (fun _ : Unit => _) () A B row hs.1 hg hr, blk_own _ _ (fun _ : Unit => _) () A B row hs.2.1 hg hr, blk_own _ _ (fun _ : Unit => _) () A B row hs.2.2.1 hg hr, blk_own _ _ (fun _ : Unit => _) () A B row hs.2.2.2 hg hr⟩) _) (OwnFrom.and (fun s A B row hs hg hr => ?_) (OwnFrom.and (Own.from (size_own _) _) (ownFrom_below (Nat.le_refl _) (by omega))))
    exact hs.grown hg (fun e => by have := (hr _ e.symm).1; omega)
  case hAx =>
    intro i a' s A B row hs hg hr
    obtain ⟨Bx, hBx, hb, e⟩ := hs
    exact ⟨Bx, hBx, blk_own _ _ (fun _ : Unit => _) () A B row hb hg (fun r e => (hr r e).2), e⟩
  case assign =>
    intro l pre x W K hi hK
    obtain ⟨⟨i0, i1, i2, i4⟩, i3, i5, i6⟩ := hi
    dsimp only [dueArgs]
    gi_wp2
    refine hK _ _ ((KeepsOthers.alloc _ _).from _) ((Below.refl _ W).alloc (by have := i6.size; omega) _) ⟨⟨i0.alloc _, i1.alloc _, i2.alloc _, i4.alloc _⟩, i3.grown (World.grownBy_alloc W _ none) (by simp), by simp; omega, i6.alloc (by have := i6.size; omega) _⟩ ⟨W.heap.size, i5, World.alloc_heap_new W _, rfl⟩
  case body =>
    rintro l pre i a' W hl ⟨r, hr⟩ ⟨⟨m0, m1, m2, m4⟩, m3, hWs, hBW⟩ ⟨Bx, hBx, bX, rfl⟩ hlt
    have hd := hds ds[i] (List.getElem_mem _)
    obtain ⟨d, hdd⟩ : ∃ d, d = ds[i] := ⟨_, rfl⟩
    rw [← hdd] at bX hd ⊢
    have HD : Hid (d = ds[i]) := hdd
    clear hdd
    obtain ⟨q1, q2, q3, q4, q5, q6⟩ := hd
    simp only [dueV] at bX ⊢
    have c0 := m0.cell 0 rfl
    gi_wp2
    generalize hP : pre.length = np at *
    gi_loopw [21] (fun i wr => ∃ k : Nat, (k : Int) ≤ names ∧ i = .int .i64 k ∧ (Blk wr w.heap.size 48 #[.int .i64 names, .int .i64 limit, .int .i64 window, vl, vd] ∧ Blk wr g1 46 #[.slice A ds.length c] ∧ Blk wr g2 134 (boolCells xs) ∧ Blk wr g4 140 #[.map (some g3)]) ∧ IMap wr g3 (8 * np + k) (partM xs names window ds pre d.f0 k) ∧ Blk wr Bx 61 #[.int .i64 d.f0, .int .i64 d.f1, .int .i64 d.f2, .bool d.f3] ∧ KeepsFrom W0.heap.size W wr ∧ Below w.heap.size W wr ∧ W.heap.size ≤ wr.heap.size) (fun i _ => names.toNat - (intOf i).toNat)
    · exact ⟨0, by simpa using hn0, rfl, ⟨m0, m1, m2, m4⟩, m3.ext (fun x y _ _ => part_zero x y), bX, KeepsFrom.refl _ _, Below.refl _ _, Nat.le_refl _⟩
    · obtain ⟨k, hk, rfl, ⟨n0, n1, n2, n4⟩, n3, nX, hKp, hBp, hsz2⟩ := hrel
      have hwk : W64 k := ⟨by omega, by omega⟩
      have hwd : W64 d.f0 := ⟨by omega, by omega⟩
      by_cases hlt2 : (k : Int) < names
      · have cx0 := nX.cell 0 rfl
        have c4 : (wr.alloc (.cells #[.int .i64 k, .int .i64 d.f0] 142)).cell? ⟨g4, 0, none⟩ = some (.map (some g3)) := (n4.alloc _).cell 0 rfl
        cases hs : (partM xs names window ds pre d.f0 k k d.f0).isSome with
        | true =>
          gi_wp2_with (gi_at_lookup; refine in_look_ok rfl _ _ rfl (b := g3) rfl (n3.alloc _) hwk hwd rfl ?_)
          refine ⟨⟨k + 1, by omega, by push_cast; rfl, ⟨n0.alloc _, n1.alloc _, n2.alloc _, n4.alloc _⟩, ((n3.alloc _).mono (by omega)).ext (fun x y _ _ => part_have (by omega) hs x y), nX.alloc _, hKp.trans ((KeepsOthers.alloc _ _).from _), hBp.alloc (by have := hBW.size; omega) _, by simp; omega⟩, by simp [intOf]; omega⟩
        | false =>
          gi_wp2_with (gi_at_lookup; refine in_look_ok rfl _ _ rfl (b := g3) rfl (n3.alloc _) hwk hwd rfl ?_)
          obtain ⟨W2, hW2⟩ : ∃ W2, wr.alloc (.cells #[.int .i64 k, .int .i64 d.f0] 142) = W2 := ⟨_, rfl⟩
          have s0 : Blk W2 w.heap.size 48 #[.int .i64 names, .int .i64 limit, .int .i64 window, vl, vd] := by rw [← hW2]; exact n0.alloc _
          have s1 : Blk W2 g1 46 #[.slice A ds.length c] := by rw [← hW2]; exact n1.alloc _
          have s2 : Blk W2 g2 134 (boolCells xs) := by rw [← hW2]; exact n2.alloc _
          have s4 : Blk W2 g4 140 #[.map (some g3)] := by rw [← hW2]; exact n4.alloc _
          have sX : Blk W2 Bx 61 #[.int .i64 d.f0, .int .i64 d.f1, .int .i64 d.f2, .bool d.f3] := by rw [← hW2]; exact nX.alloc _
          have sK : Blk W2 wr.heap.size 142 #[.int .i64 k, .int .i64 d.f0] := by rw [← hW2]; exact blk_new _ _ _
          have s3 : IMap W2 g3 (8 * np + k) (partM xs names window ds pre d.f0 k) := by rw [← hW2]; exact n3.alloc _
          have hK2 : KeepsFrom W0.heap.size W W2 := by rw [← hW2]; exact hKp.trans ((KeepsOthers.alloc _ _).from _)
          have hB2 : Below w.heap.size W W2 := by rw [← hW2]; exact hBp.alloc (by have := hBW.size; omega) _
          have hz2 : wr.heap.size + 1 = W2.heap.size := by rw [← hW2]; simp
          have hC2 : Kd.C k61 W2 A ds.length ds := Kd.C_below hC (hBW.trans hB2)
          rw [hW2]
          clear hW2 n0 n1 n2 n3 n4 nX m0 m1 m2 m3 m4 bX b0 b1 b2 b3 b4 b5 hseq
          have e0 := ext_cell (s4.cell 0 rfl)
          have e1 := ext_cell (sK.cell 0 rfl)
          have e2 := ext_cell (sK.cell 1 rfl)
          have e3 := ext_cell (s0.cell 0 rfl)
          have e4 := ext_cell (s0.cell 1 rfl)
          have e5 := ext_cell (s0.cell 2 rfl)
          have e6 := ext_cell (s0.cell 3 rfl)
          have e7 := ext_cell (s0.cell 4 rfl)
          have e8 := ext_cell (s1.cell 0 rfl)
          have e9 := ext_cell (sX.cell 0 rfl)
          refine wpIn_region_class_tail_round 9 (fun w' => ∃ x : Ext W2, w' = x.1) rfl (by kernel_rfl) (by kernel_rfl) (by kernel_rfl) (ext_drawn _) ?_
          simp only [List.take_succ_cons, List.take_zero, List.drop_succ_cons, List.drop_zero]
          repeat (gi_big_quiet_step (fail))
          gi_big_quiet_want
          refine quietIn_load_row 134 _ rfl g2 rfl s2 Try.underlying134 rfl (by rw [boolCells_size, hxs]; rfl) ?_
          go_big_quiet_on
          simp only [Act.put, List.setIfInBounds_toArray, List.set_cons_succ, List.set_cons_zero]
          repeat (gi_big_quiet_step ((rename_i x; exact callsIn_wide.2 ((within_any names limit window vl vd A c ds xs k d.f0 x.1 (Kd.C_below hC2 x.2) hxs (by omega) (by omega) hw0 hw1 q1 q2 hds hnames hlen).mono fun e w' h => ⟨h.1, ext_go h.2⟩))))
          refine wpQuietIn_nil ?_
          rintro _ ⟨x, rfl⟩
          have hv := sumWin_bounds xs names window k d.f0 ds hds (cashI ds ds.length)
          refine in_put (b := g3) (n := 8 * np + k) rfl _ _ _ rfl rfl (s3.below x.2 s3.lt) (by omega) hwk hwd ⟨by omega, by omega⟩ rfl rfl ?_
          intro W3 h3 hg3'
          have hx := x.2
          have hlt3 := s3.lt
          have t0 : Blk W3 w.heap.size 48 #[.int .i64 names, .int .i64 limit, .int .i64 window, vl, vd] := (s0.below hx s0.lt).grown hg3' (by simp; omega)
          have t1 : Blk W3 g1 46 #[.slice A ds.length c] := (s1.below hx s1.lt).grown hg3' (by simp; omega)
          have t2 : Blk W3 g2 134 (boolCells xs) := (s2.below hx s2.lt).grown hg3' (by simp; omega)
          have t4 : Blk W3 g4 140 #[.map (some g3)] := (s4.below hx s4.lt).grown hg3' (by simp; omega)
          have tX : Blk W3 Bx 61 #[.int .i64 d.f0, .int .i64 d.f1, .int .i64 d.f2, .bool d.f3] := (sX.below hx sX.lt).grown hg3' (by simp; omega)
          have h3' : IMap W3 g3 (8 * np + (k + 1)) (partM xs names window ds pre d.f0 ((k + 1 : Nat) : Int)) := h3.ext (fun x y _ _ => by push_cast; exact part_put (by omega) x y)
          have hK3 : KeepsFrom W0.heap.size W W3 := (hK2.trans ((keeps_of_below hx).from _)).trans (KeepsFrom.of_grownBy hg3' (fun j e => by cases e; omega))
          have hB3 : Below w.heap.size W W3 := (hB2.trans (hx.mono (by omega))).grown hg3' (by have := hBW.size; have := hx.size; omega) (fun j e => by cases e; omega)
          have hz3 : W.heap.size ≤ W3.heap.size := by have := hg3'.size; have := hx.size; omega
          show Exit.inBlock 3 _ Exit.normal _ _
          simp only [Act.put, Exit.inBlock]
          gi_wp2
          refine ⟨⟨k + 1, by omega, by push_cast; rfl, ⟨t0, t1, t2, t4⟩, h3', tX, hK3, hB3, hz3⟩, by simp [intOf]; omega⟩
      · gi_wp2
        have hkn : names = (k : Int) := by omega
        refine ⟨hKp, hBp, ⟨n0, n1, n2, n4⟩, (n3.mono (by rw [List.length_append, hP]; simp; omega)).ext (fun x y _ _ => by rw [← hkn]; exact part_end i (by rw [HD.out]) x y), by omega, hBW.trans hBp⟩
  case done =>
    rintro D ys W hD rfl ⟨⟨m0, m1, m2, m4⟩, m3, hWs, hBW⟩ hK
    have c4 := m4.cell 0 rfl
    gi_wp2
    refine ⟨by simp, .inl ⟨_, _, rfl, run_takeDeferred hK, ?_⟩⟩
    have hb := belowK_b (w := w) (Nat.le_refl _) W D _ (.deferred none) (by omega) hK rfl rfl
    refine ⟨_, results_tmp rfl _ _ _, g3, rfl, ?_, by omega, hBW.trans (belowK_b (w := w) (Nat.le_refl _) W D _ _ (by omega) hK rfl rfl)⟩
    exact (m3.mono (by omega)).at_heap (World.putObj_heap_other (by omega))
  case stop =>
    rintro D c pre W _ _ h _
    exact h.elim
end Go.Proofs.Ytkdlbocjgbmbdaa.Print

namespace Go.Proofs.Ytkdlbocjgbmbdaa.Print
open Go.RowKit Go.Shelf
theorem w64_of_wf {x : Int} (h : (Lit.int .i64 x).wf = true) : W64 x := by
  simp [Lit.wf, IntKind.min, IntKind.max, IntKind.signed, IntKind.bits] at h
  exact ⟨by omega, by omega⟩
theorem two_of_size {cs : Array Value} (h : (cs.size == 2) = true) : ∃ c0 c1, cs = #[c0, c1] := by
  obtain ⟨l⟩ := cs
  match l, (eq_of_beq h : l.length = 2) with
  | [c0, c1], _ => exact ⟨c0, c1, rfl⟩
theorem key142_inv {key : Value} {kl : Lit} (h : keyOf Try.prog 142 key = some kl) : ∃ x y, key = whenV x y ∧ W64 x ∧ W64 y ∧ kl = whenK x y := by
  have hs : 142 < Try.prog.types.size := of_decide_eq_true (by kernel_rfl)
  have hc : Try.prog.cellsOf 142 = 2 := by kernel_rfl
  have hc3 : Try.prog.cellsOf 3 = 1 := by kernel_rfl
  have hk : Try.prog.keyType 142 = true := by kernel_rfl
  obtain ⟨m, hm⟩ : ∃ m, Try.prog.types.size = m + 1 := ⟨Try.prog.types.size - 1, by omega⟩
  have hz : Try.prog.types.size + 1 = m + 2 := by omega
  simp only [keyOf, Try.underlying142, hk, Bool.true_and, hz] at h
  cases hf : key.formed Try.prog 142 with
  | true =>
    rw [hf] at h
    simp only [if_true] at h
    obtain ⟨cs, rfl, hf3⟩ : ∃ cs, key = .agg cs ∧ (cs.size == 2) = true := by
      cases key <;> simp only [Value.formed, Try.underlying142, hc, Bool.false_eq_true] at hf
      exact ⟨_, rfl, hf⟩
    obtain ⟨c0, c1, rfl⟩ := two_of_size hf3
    cases c0 <;> simp [Program.keyLits, Try.underlying142, Try.underlying3, hc, hc3, Value.cells] at h
    rename_i q0 n0
    by_cases hx : q0 = IntKind.i64 ∧ (Lit.int IntKind.i64 n0).wf = true
    · rw [if_pos hx] at h
      cases c1 <;> simp [Program.keyLits, Try.underlying142, Try.underlying3, hc, hc3, Value.cells] at h
      rename_i q1 n1
      by_cases hy : q1 = IntKind.i64 ∧ (Lit.int IntKind.i64 n1).wf = true
      · rw [if_pos hy] at h
        obtain ⟨rfl, hx⟩ := hx
        obtain ⟨rfl, hy⟩ := hy
        simp at h
        exact ⟨n0, n1, rfl, w64_of_wf hx, w64_of_wf hy, h.symm⟩
      · rw [if_neg hy] at h
        simp at h
    · rw [if_neg hx] at h
      simp at h
  | false =>
    rw [hf] at h
    cases h
theorem lit_inj {a b : Int} (h : (DataW.lit (.int .i64 a) : DataW Unit) = .lit (.int .i64 b)) : a = b := by
  injection h with e
  injection e
theorem opt_of {x : Option Int} {c : Int} (h : x.isSome = true) (he : x.getD 0 = c) : x = some c := by
  cases x with
  | none => cases h
  | some y => exact congrArg some he
theorem same_when {x' y' x y : Int} (hx' : W64 x') (hy' : W64 y') (hx : W64 x) (hy : W64 y) : (whenK x' y').sameKey (whenK x y) = (decide (x' = x) && decide (y' = y)) := by
  by_cases he : x' = x ∧ y' = y
  · obtain ⟨rfl, rfl⟩ := he
    rw [WideAt.sameKey_self (law142.key (whenK_eq hx hy))]; simp
  · rw [Maps.sameKey_ne (fun e => he (whenK_inj hx' hy' hx hy e))]
    by_cases h1 : x' = x
    · have : y' ≠ y := fun h2 => he ⟨h1, h2⟩
      simp [this]
    · simp [h1]
def IRng (W : World) (b r n : Nat) (m : Int → Int → Option Int) (left : Int → Int → Bool) (cnt : Nat) : Prop :=
  ∃ (D : DataW Unit) (lf : Lit → Bool), W.ranges Try.prog 142 (plainElem Try.prog 3) b r n D lf cnt ∧ (∀ x y, W64 x → W64 y → Maps.has D (whenK x y) = (m x y).isSome ∧ D.atKey (whenK x y) (.lit (.int .i64 0)) = .lit (.int .i64 ((m x y).getD 0))) ∧ ∀ x y, W64 x → W64 y → lf (whenK x y) = left x y
theorem IRng.left_eq {W : World} {b r n : Nat} {m} {left} {cnt : Nat} (h : IRng W b r n m left cnt) : W.rangeLeft b r = cnt := by obtain ⟨D, lf, h, _⟩ := h; exact h.left_eq
theorem IRng.ne {W : World} {b r n : Nat} {m} {left} {cnt : Nat} (h : IRng W b r n m left cnt) : r ≠ b ∧ r < W.heap.size ∧ b < W.heap.size := by obtain ⟨D, lf, h, _⟩ := h; exact ⟨h.ne, h.lt, h.owns.lt⟩
section
variable {ops : Array Oper} {rest : List Oper} {o : Oper} {a : Act} {Q : Exit → Act → World → Prop} {W : World}
theorem p_range (hg : o.guard = none) (mo : Operand) (hop : o.op = Op.range 140 mo) {b n : Nat} {m} (hm : a.eval mo = .map (some b)) (h : IMap W b n m)
    (hK : ∀ W' cnt, IRng W' b W.heap.size n m (fun x y => (m x y).isSome) cnt → W.grownBy W' none → W'.heap.size = W.heap.size + 1 → wpList Try.prog ops Q rest (a.put o.dst (.pointer (some ⟨W.heap.size, 0, none⟩))) W') : wpList Try.prog ops Q (o :: rest) a W := by
  obtain ⟨D, hown, hD⟩ := h
  refine wpList_range_own W hg mo 140 hop 142 3 law142 Try.underlying140 (plainElem Try.prog 3) b n D hm hown fun W' h1 h2 h3 => ?_
  exact hK W' _ ⟨D, _, h1, hD, fun x y hx hy => (hD x y hx hy).1⟩ h2 h3
theorem p_next (hg : o.guard = none) (it : Operand) (hop : o.op = Op.next it false) {b r n : Nat} {m} {left} {cnt : Nat} (hit : a.eval it = .pointer (some ⟨r, 0, none⟩)) (h : IRng W b r n m left cnt)
    (hDone : (∀ x y, W64 x → W64 y → left x y = false) → wpList Try.prog ops Q rest (a.put o.dst (.tuple #[.bool false])) W)
    (hMore : ∀ (x y c : Int) (W' : World) (cnt' : Nat), W64 x → W64 y → W64 c → left x y = true → m x y = some c → IRng W' b r n m (fun x' y' => left x' y' && !(decide (x' = x) && decide (y' = y))) cnt' → cnt' < cnt →
      W.grownBy W' (some r) → W'.heap.size = W.heap.size → (Instr.entry (.pointer (some ⟨r, 0, none⟩))).run Try.prog W' = .ok (.tuple #[whenV x y, .int .i64 c]) W' → wpList Try.prog ops Q rest (a.put o.dst (.tuple #[.bool true, whenV x y, .int .i64 c])) W') : wpList Try.prog ops Q (o :: rest) a W := by
  obtain ⟨D, lf, hr, hD, hl⟩ := h
  refine wpList_next_ranges W hg it hop 142 law142 (plainElem Try.prog 3) (fun p : Int × Int => whenV p.1 p.2) (Value.int .i64) (fun key kl hkey => by obtain ⟨x, y, rfl, _⟩ := key142_inv hkey; exact ⟨(x, y), rfl⟩) (fun v y hv => by obtain ⟨c, rfl, _⟩ := plainElem_int_inv Try.underlying3 hv; exact ⟨c, rfl⟩)
    b r n D lf cnt hit hr (fun _ h0 => hDone fun x y hx hy => by rw [← hl x y hx hy]; exact h0 _) (fun p c kl z W' cnt' hkey hlk hv hat hrg hlt hgr hsz hen => ?_)
  obtain ⟨x, y, e, hx, hy, rfl⟩ := key142_inv hkey
  have e' : p.1 = x ∧ p.2 = y := by simpa [whenV] using e
  obtain ⟨p1, p2⟩ := p
  obtain ⟨rfl, rfl⟩ := e'
  obtain ⟨c', ec, rfl, hwc⟩ := plainElem_int_inv Try.underlying3 hv
  cases ec
  obtain ⟨d1, d2⟩ := hD p1 p2 hx hy
  have hc : m p1 p2 = some c := by
    exact opt_of ((Maps.has_true_of_atKey hat).symm.trans d1).symm (lit_inj (d2.symm.trans (hat (.lit (.int .i64 0)))))
  refine hMore p1 p2 c W' cnt' hx hy (w64_of_wf hwc) (by rw [← hl p1 p2 hx hy]; exact hlk) hc ⟨D, _, hrg, hD, fun x' y' hx' hy' => ?_⟩ hlt hgr hsz hen
  exact congr (congrArg and (hl x' y' hx' hy')) (congrArg not (same_when hx' hy' hx hy))
end
end Go.Proofs.Ytkdlbocjgbmbdaa.Print
