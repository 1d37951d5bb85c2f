import Derived.Test.YtkdlbocjgbmbdaaVa2
import Derived.Laws.EntriesVeiled
import Derived.Shelf.Strings.Search3
import Derived.Test.YtkdlbocjgbmbdaaProg
import Derived.Laws.OwnMore
import Derived.Maps.OwnOps
import Derived.Defers
set_option linter.unusedVariables false
set_option linter.unusedSimpArgs false
namespace Go.Proofs.Ytkdlbocjgbmbdaa.Print
open Go.RowKit Go.Shelf Go.Proofs.YtkdlbocjgbmbdaaW.PrintWords
set_option linter.unusedVariables false
attribute [local go_sem] Oper.semAt_some
attribute [local go_sem] wide_fn wide_asked
def keptI (xs : List Bool) (names limit window : Int) (ds : List S61) : Bool :=
  (cashI ds ds.length).all fun i => (List.range names.toNat).all fun n => decide (paidV xs window ds (n : Int) ds[i].f0 ≤ limit)
section
variable {xs : List Bool} {names limit window : Int} {ds : List S61}
theorem paidM_some {x y v : Int} (h : paidM xs names window ds (cashI ds ds.length) x y = some v) : 0 ≤ x ∧ x < names ∧ (∃ i ∈ cashI ds ds.length, ds[i].f0 = y) ∧ v = paidV xs window ds x y := by
  unfold paidM at h
  cases hs : paidS names ds (cashI ds ds.length) x y with
  | false => rw [hs] at h; simp at h
  | true =>
    rw [hs] at h
    simp only [if_true, Option.some.injEq] at h
    simp only [paidS, Bool.and_eq_true, decide_eq_true_eq, List.any_eq_true] at hs
    exact ⟨hs.1.1, hs.1.2, hs.2, h.symm⟩
theorem keptI_true (hds : ∀ d ∈ ds, OkDue names d) (hn : names ≤ 8) (h : ∀ x y v, W64 x → W64 y → paidM xs names window ds (cashI ds ds.length) x y = some v → v ≤ limit) : keptI xs names limit window ds = true := by
  unfold keptI
  rw [List.all_eq_true]
  intro i hi
  rw [List.all_eq_true]
  intro n hn'
  have hlt := List.mem_range.1 hn'
  have hd := hds ds[i] (List.getElem_mem _)
  have h0 := hd.day0
  have h1 := hd.day1
  refine decide_eq_true (h n ds[i].f0 _ ⟨by omega, by omega⟩ ⟨by omega, by omega⟩ ?_)
  unfold paidM
  rw [if_pos]
  simp only [paidS, Bool.and_eq_true, decide_eq_true_eq, List.any_eq_true]
  exact ⟨⟨by omega, by omega⟩, i, hi, rfl⟩
theorem keptI_false {x y v : Int} (h : paidM xs names window ds (cashI ds ds.length) x y = some v) (hv : limit < v) : keptI xs names limit window ds = false := by
  obtain ⟨h0, h1, ⟨i, hi, rfl⟩, rfl⟩ := paidM_some h
  cases hk : keptI xs names limit window ds with
  | false => rfl
  | true =>
    unfold keptI at hk
    have := List.all_eq_true.1 (List.all_eq_true.1 hk i hi) x.toNat (List.mem_range.2 (by omega))
    have e : ((x.toNat : Nat) : Int) = x := by omega
    rw [e] at this
    have := of_decide_eq_true this
    omega
end
set_option maxRecDepth 100000 in
set_option maxHeartbeats 4000000 in
theorem kept_any (names limit window : Int) (vl vd : Value) (A : Option Addr) (c : Nat) (ds : List S61) (xs : List Bool) (w : World)
    (hC : Kd.C k61 w A ds.length ds) (hxs : xs.length = 64) (hw0 : 1 ≤ window) (hw1 : window ≤ 30) (hds : ∀ d ∈ ds, OkDue names d) (hn0 : 0 ≤ names) (hnames : names ≤ 8) (hlen : ds.length ≤ 1000) :
    Calls Try.prog 92 #[.agg #[.int .i64 names, .int .i64 limit, .int .i64 window, vl, vd], .slice A ds.length c, .agg (boolCells xs)] w fun e w' =>
      e = .returned (.bool (keptI xs names limit window ds)) ∧ Below w.heap.size w w' := by
  go_enter Try.func92, Try.ntmps92
  have HI : (Try.prog.info? 134).map (·.size) = some (boolCells xs).size := by rw [boolCells_size, hxs]; kernel_rfl
  have b1 : Blk ((w.alloc (.cells #[.int .i64 names, .int .i64 limit, .int .i64 window, vl, vd] 48)).alloc (.cells (boolCells xs) 134)) (w.heap.size + 1) 134 (boolCells xs) := blk_new' (by simp)
  go_wp2_with (first
    | ((with_reducible refine gate_dst (N := 11) rfl ?_); refine ev_load_row (N := 11) rfl rfl 134 _ rfl (w.heap.size + 1) rfl (t := 134) (cs := boolCells xs) b1 Try.underlying134 HI ?_)
    | (go_at_call 127; refine (paid_any names limit window vl vd A c ds xs _ (Kd.C_below hC ?hb) hxs hw0 hw1 hds hn0 hnames hlen).mono ?_; rotate_left; rintro e w1 ⟨b, rfl, hm, hb, hB⟩)
    | (at_range; refine p_range rfl _ rfl rfl hm ?_; intro W1 cnt hr hg hs))
  case hb => repeat (first | exact Below.refl _ _ | refine below_alloc ?_ _)
  have z0 : Blk W1 w.heap.size 48 #[.int .i64 names, .int .i64 limit, .int .i64 window, vl, vd] := (((blk_new w 48 _).alloc _).below hB (by simp; omega)).grown hg (by simp)
  have zB : Below w.heap.size w W1 := (((below_alloc (below_alloc (Below.refl _ _) _) _).trans (hB.mono (by simp; omega)))).grown hg (by have := hB.size; simp at this; omega) (fun j e => by cases e)
  have hbs : w.heap.size + 2 ≤ b := by simpa using hb
  have hw1s : w.heap.size + 2 ≤ w1.heap.size := by have := hB.size; simpa using this
  generalize hr1 : w1.heap.size = r at *
  clear hm hB hg hs hb b1
  go_frame
  go_loopw [8] (fun _ wr => ∃ left cnt, IRng wr b r 8000 (paidM xs names window ds (cashI ds ds.length)) left cnt ∧ Hid (∀ x y v, W64 x → W64 y → paidM xs names window ds (cashI ds ds.length) x y = some v → left x y = false → v ≤ limit) ∧ Blk wr w.heap.size 48 #[.int .i64 names, .int .i64 limit, .int .i64 window, vl, vd] ∧ Below w.heap.size w wr) (fun _ wr => wr.rangeLeft b r)
  · exact ⟨_, _, hr, fun x y v _ _ h1 h2 => (by rw [h1] at h2; cases h2), z0, zB⟩
  · obtain ⟨left, cnt1, hrg, hI, n0, nB⟩ := hrel
    go_wp2_with (at_next; refine p_next rfl _ rfl rfl hrg (fun hD => ?_) (fun x y v W' cnt' hx hy hv hl hmv hrg' hlt hgr hsz hen => ?_); rotate_left; (have c1 := (n0.grown hgr (by simp; omega)).cell 1 rfl); rcases Int.lt_or_le limit v with hc | hc)
    · go_ret
      have hne := hrg.ne
      exact ⟨by rw [keptI_false hmv hc]; rfl, nB.grown hgr (by have := nB.size; omega) (fun j e => by cases e; omega)⟩
    · have hne := hrg.ne
      refine ⟨⟨_, _, hrg', fun x' y' v' hx' hy' hm' hl' => ?_, n0.grown hgr (by simp; omega), nB.grown hgr (by have := nB.size; omega) (fun j e => by cases e; omega)⟩, by rw [hrg'.left_eq, hrg.left_eq]; exact hlt⟩
      cases hlf : left x' y' with
      | false => exact hI.out x' y' v' hx' hy' hm' hlf
      | true =>
        rw [hlf] at hl'
        simp only [Bool.true_and, Bool.not_eq_false', Bool.and_eq_true, decide_eq_true_eq] at hl'
        obtain ⟨rfl, rfl⟩ := hl'
        rw [hmv] at hm'
        cases hm'
        exact hc
    · go_ret
      exact ⟨by rw [keptI_true hds hnames (fun x y v hx hy h => hI.out x y v hx hy h (hD x y hx hy))]; rfl, nB⟩
end Go.Proofs.Ytkdlbocjgbmbdaa.Print

namespace Go.Proofs.Ytkdlbocjgbmbdaa.Print
open Go.RowKit Go.Shelf Go.Proofs.YtkdlbocjgbmbdaaW.PrintWords
set_option linter.unusedVariables false
attribute [local go_sem] Oper.semAt_some
attribute [local go_sem] wide_fn wide_asked
structure TillOk (names limit window : Int) (ls : List S84) (ds : List S61) : Prop where
  n1 : 1 ≤ names
  n8 : names ≤ 8
  l0 : 0 ≤ limit
  l1 : limit ≤ 100000000
  w1 : 1 ≤ window
  w2 : window ≤ 30
  links : ∀ l ∈ ls, OkLink names l
  dues : ∀ d ∈ ds, OkDue names d
  few : ls.length ≤ 10
  fewd : ds.length ≤ 20
  rising : ∀ i, i + 1 < ds.length → (ds.getD i z61).f0 ≤ (ds.getD (i + 1) z61).f0
theorem inB_true {n a b : Int} (h : ¬ inB n a b = false) : a ≤ n ∧ n ≤ b := by
  have : inB n a b = true := by simpa using h
  simpa [inB] using this
theorem tillE_ok {names limit window : Int} {ls : List S84} {ds : List S61} (h : tillE names limit window ls ds = 0) : TillOk names limit window ls ds := by
  unfold tillE at h
  split at h
  · cases h
  split at h
  · cases h
  split at h
  · cases h
  rename_i h3
  split at h
  · cases h
  rename_i h4
  split at h
  · cases h
  unfold restE at h
  split at h
  · rename_i h6; exact absurd h h6
  rename_i h6
  have h6 : linksE names ls = 0 := by simpa using h6
  split at h
  · cases h
  have hl := firstE_zero _ _ h6
  have hd := firstE_zero _ _ h
  have := inB_true h3
  have := inB_true h4
  refine ⟨by omega, by omega, by omega, by omega, by omega, by omega, fun l hl' => ?_, fun d hd' => ?_, by omega, by omega, fun i hi => ?_⟩
  · obtain ⟨k, hk, rfl⟩ := List.getElem_of_mem hl'
    have := hl k hk
    rw [List.getD_eq_getElem?_getD, List.getElem?_eq_getElem hk] at this
    simp only [Option.getD_some] at this
    unfold linkE at this
    split at this
    · cases this
    rename_i g1
    split at this
    · cases this
    rename_i g2
    split at this
    · cases this
    rename_i g3
    have := inB_true g1
    have := inB_true g2
    exact ⟨by simpa using g3, by omega, by omega, by omega, by omega⟩
  · obtain ⟨k, hk, rfl⟩ := List.getElem_of_mem hd'
    have := hd k hk
    rw [List.getD_eq_getElem?_getD (i := k), List.getElem?_eq_getElem hk] at this
    simp only [Option.getD_some] at this
    unfold dueE at this
    split at this
    · cases this
    rename_i g1
    split at this
    · cases this
    split at this
    · cases this
    rename_i g2
    split at this
    · cases this
    rename_i g3
    have := inB_true g1
    have := inB_true g2
    have := inB_true g3
    exact ⟨by omega, by omega, by omega, by omega, by omega, by omega⟩
  · have := hd (i + 1) hi
    unfold dueE at this
    split at this
    · cases this
    split at this
    · cases this
    rename_i g1
    simp only [Nat.add_sub_cancel] at g1
    omega
def keptT (all : Bool) (names limit window : Int) (ls : List S84) (ds : List S61) : Bool := keptI (tiesL all ls) names limit window ds
def lawfulR (names limit window : Int) (ls : List S84) (ds : List S61) : Int × Int :=
  if tillE names limit window ls ds ≠ 0 then (0, tillE names limit window ls ds) else if keptT true names limit window ls ds = true then (1, 0) else if keptT false names limit window ls ds = true then (3, 0) else (2, 0)
set_option maxRecDepth 100000 in
set_option maxHeartbeats 8000000 in
theorem lawful_any (names limit window : Int) (A0 : Option Addr) (c0 : Nat) (ls : List S84) (A1 : Option Addr) (c1 : Nat) (ds : List S61) (w : World)
    (hl : Kd.C k84 w A0 ls.length ls) (hlc : ls.length ≤ c0) (hd : Kd.C k61 w A1 ds.length ds) :
    Calls Try.prog 38 #[.agg #[.int .i64 names, .int .i64 limit, .int .i64 window, .slice A0 ls.length c0, .slice A1 ds.length c1]] w fun e w' =>
      e = .returned (.tuple #[.int .i64 (lawfulR names limit window ls ds).1, .int .i64 (lawfulR names limit window ls ds).2]) ∧ Below w.heap.size w w' := by
  obtain ⟨t, ht⟩ : ∃ t, t = tillE names limit window ls ds := ⟨_, rfl⟩
  have HT : Hid (t = tillE names limit window ls ds) := ht
  by_cases h0 : t = 0
  · have hok : TillOk names limit window ls ds := tillE_ok (by rw [← ht]; exact h0)
    clear ht
    go_enter Try.func38, Try.ntmps38
    go_wp2_with (first
      | (go_at_call 73; refine (check73_any names limit window A0 c0 ls A1 c1 ds _ (Kd.C_below hl ?_) hlc (Kd.C_below hd ?_)).mono ?_; rotate_left; rotate_left; rintro e w1 ⟨rfl, hB⟩; rw [← HT.out, h0]))
    rotate_left
    · exact below_alloc (Below.refl _ _) _
    · exact below_alloc (Below.refl _ _) _
    have b0 : Blk w1 w.heap.size 48 #[.int .i64 names, .int .i64 limit, .int .i64 window, .slice A0 ls.length c0, .slice A1 ds.length c1] := (blk_new w 48 _).below hB (by simp)
    have hl1 := Kd.C_below hl ((below_alloc (Below.refl _ _) _).trans (hB.mono (by simp)))
    have hd1 := Kd.C_below hd ((below_alloc (Below.refl _ _) _).trans (hB.mono (by simp)))
    have hB1 : Below w.heap.size w w1 := (below_alloc (Below.refl _ _) _).trans (hB.mono (by simp))
    clear hB
    have e0 := ext_cell (b0.cell 0 rfl)
    have e1 := ext_cell (b0.cell 1 rfl)
    have e2 := ext_cell (b0.cell 2 rfl)
    have e3 := ext_cell (b0.cell 3 rfl)
    have e4 := ext_cell (b0.cell 4 rfl)
    cases hk1 : keptI (tiesL true ls) names limit window ds with
    | true =>
      refine wp_region_ext (by kernel_rfl) (by kernel_rfl) ?_
      repeat (gi_big_quiet_step ((rename_i x; first
        | exact callsIn_wide.2 ((tiesOf_any names limit window A0 c0 ls (.slice A1 ds.length c1) true x.1 (Kd.C_below hl1 x.2) hok.links hok.n8).mono fun e w' h => ⟨h.1, ext_go h.2⟩)
        | exact callsIn_wide.2 ((kept_any names limit window _ _ A1 c1 ds (tiesL true ls) x.1 (Kd.C_below hd1 x.2) (tiesL_len _ _) hok.w1 hok.w2 hok.dues (by have := hok.n1; omega) hok.n8 (by have := hok.fewd; omega)).mono fun e w' h => ⟨h.1.trans (by rw [hk1]), ext_go h.2⟩))))
      refine wpQuietIn_nil ?_
      rintro _ ⟨⟨W2, hx⟩, rfl⟩
      have HR : Hid (lawfulR names limit window ls ds = (1, 0)) := by
        show lawfulR names limit window ls ds = (1, 0)
        rw [lawfulR, ← HT.out, h0, if_neg (by simp), keptT, hk1, if_pos rfl]
      go_wp2
      go_ret2
      exact ⟨by rw [HR.out]; rfl, hB1.trans (hx.mono hB1.size)⟩
    | false =>
      refine wp_region_ext (by kernel_rfl) (by kernel_rfl) ?_
      repeat (gi_big_quiet_step ((rename_i x; first
        | exact callsIn_wide.2 ((tiesOf_any names limit window A0 c0 ls (.slice A1 ds.length c1) true x.1 (Kd.C_below hl1 x.2) hok.links hok.n8).mono fun e w' h => ⟨h.1, ext_go h.2⟩)
        | exact callsIn_wide.2 ((kept_any names limit window _ _ A1 c1 ds (tiesL true ls) x.1 (Kd.C_below hd1 x.2) (tiesL_len _ _) hok.w1 hok.w2 hok.dues (by have := hok.n1; omega) hok.n8 (by have := hok.fewd; omega)).mono fun e w' h => ⟨h.1.trans (by rw [hk1]), ext_go h.2⟩))))
      refine wpQuietIn_nil ?_
      rintro _ ⟨⟨W2, hx⟩, rfl⟩
      replace hl1 := Kd.C_below hl1 hx
      replace hd1 := Kd.C_below hd1 hx
      replace b0 := b0.below hx b0.lt
      replace hB1 := hB1.trans (hx.mono hB1.size)
      clear e0 e1 e2 e3 e4 hx
      have e0 := ext_cell (b0.cell 0 rfl)
      have e1 := ext_cell (b0.cell 1 rfl)
      have e2 := ext_cell (b0.cell 2 rfl)
      have e3 := ext_cell (b0.cell 3 rfl)
      have e4 := ext_cell (b0.cell 4 rfl)
      go_wp2
      cases hk2 : keptI (tiesL false ls) names limit window ds with
      | true =>
        refine wp_region_ext (by kernel_rfl) (by kernel_rfl) ?_
        repeat (gi_big_quiet_step ((rename_i x; first
          | exact callsIn_wide.2 ((tiesOf_any names limit window A0 c0 ls (.slice A1 ds.length c1) false x.1 (Kd.C_below hl1 x.2) hok.links hok.n8).mono fun e w' h => ⟨h.1, ext_go h.2⟩)
          | exact callsIn_wide.2 ((kept_any names limit window _ _ A1 c1 ds (tiesL false ls) x.1 (Kd.C_below hd1 x.2) (tiesL_len _ _) hok.w1 hok.w2 hok.dues (by have := hok.n1; omega) hok.n8 (by have := hok.fewd; omega)).mono fun e w' h => ⟨h.1.trans (by rw [hk2]), ext_go h.2⟩))))
        refine wpQuietIn_nil ?_
        rintro _ ⟨⟨W2, hx⟩, rfl⟩
        have HR : Hid (lawfulR names limit window ls ds = (3, 0)) := by
          show lawfulR names limit window ls ds = (3, 0)
          rw [lawfulR, ← HT.out, h0, if_neg (by simp), keptT, hk1, if_neg (by simp), keptT, hk2, if_pos rfl]
        go_wp2
        go_ret2
        exact ⟨by rw [HR.out]; rfl, hB1.trans (hx.mono hB1.size)⟩
      | false =>
        refine wp_region_ext (by kernel_rfl) (by kernel_rfl) ?_
        repeat (gi_big_quiet_step ((rename_i x; first
          | exact callsIn_wide.2 ((tiesOf_any names limit window A0 c0 ls (.slice A1 ds.length c1) false x.1 (Kd.C_below hl1 x.2) hok.links hok.n8).mono fun e w' h => ⟨h.1, ext_go h.2⟩)
          | exact callsIn_wide.2 ((kept_any names limit window _ _ A1 c1 ds (tiesL false ls) x.1 (Kd.C_below hd1 x.2) (tiesL_len _ _) hok.w1 hok.w2 hok.dues (by have := hok.n1; omega) hok.n8 (by have := hok.fewd; omega)).mono fun e w' h => ⟨h.1.trans (by rw [hk2]), ext_go h.2⟩))))
        refine wpQuietIn_nil ?_
        rintro _ ⟨⟨W2, hx⟩, rfl⟩
        have HR : Hid (lawfulR names limit window ls ds = (2, 0)) := by
          show lawfulR names limit window ls ds = (2, 0)
          rw [lawfulR, ← HT.out, h0, if_neg (by simp), keptT, hk1, if_neg (by simp), keptT, hk2, if_neg (by simp)]
        go_wp2
        go_ret2
        exact ⟨by rw [HR.out]; rfl, hB1.trans (hx.mono hB1.size)⟩
  · have HR : Hid (lawfulR names limit window ls ds = (0, t)) := by
      show lawfulR names limit window ls ds = (0, t)
      rw [lawfulR, ← ht, if_pos h0]
    clear ht
    go_enter Try.func38, Try.ntmps38
    go_wp2_with (first
      | (go_at_call 73; refine (check73_any names limit window A0 c0 ls A1 c1 ds _ (Kd.C_below hl ?_) hlc (Kd.C_below hd ?_)).mono ?_; rotate_left; rotate_left; rintro e w1 ⟨rfl, hB⟩; rw [← HT.out]))
    · go_ret2
      exact ⟨by rw [HR.out]; rfl, (below_alloc (Below.refl _ _) _).trans (hB.mono (by simp))⟩
    · exact below_alloc (Below.refl _ _) _
    · exact below_alloc (Below.refl _ _) _
end Go.Proofs.Ytkdlbocjgbmbdaa.Print

namespace Go.Proofs.Ytkdlbocjgbmbdaa.Print
open Go.RowKit Go.Shelf Go.Proofs.YtkdlbocjgbmbdaaW.PrintWords
set_option linter.unusedVariables false
attribute [local go_sem] Oper.semAt_some
attribute [local go_sem] wide_fn wide_asked
def tagE (before : List S77) (t : S77) : Int := if readsB false t.f0 = false then 2 else if inB t.f1 0 60 = false then 1 else if hasCode before t = true then 4 else 0
def tagsE (ls : List S77) : Int := firstE (fun k => tagE (ls.take k) (ls.getD k z77)) ls.length
def readE (rs : List ByteArray) (r : ByteArray) : Int := if readsB true r = false then 2 else if ((r.size : Int) == ((rs.getD 0 ByteArray.empty).size : Int)) = false then 2 else 0
def readsE (rs : List ByteArray) : Int := firstE (fun k => readE rs (rs.getD k ByteArray.empty)) rs.length
def goods2E (rs : List ByteArray) : Int := if readsE rs ≠ 0 then readsE rs else if (mergedS rs).2 = false then 9 else 0
def goods1E (rs : List ByteArray) : Int := if (rs.length : Int) = 0 then 7 else if (4 : Int) < rs.length then 6 else goods2E rs
def goodsE (ls : List S77) (rs : List ByteArray) : Int := if (12 : Int) < ls.length then 6 else if tagsE ls ≠ 0 then tagsE ls else goods1E rs
theorem readsB_size {m : Bool} {s : ByteArray} (h : readsB m s = true) : s.size ≤ 8 := by
  unfold readsB inB at h
  simp only [Bool.and_eq_true, decide_eq_true_eq] at h
  omega
theorem readsE_ok {rs : List ByteArray} (hno : ∀ j, j < rs.length → readE rs (rs.getD j ByteArray.empty) = 0) : ∀ r ∈ rs, readsB true r = true ∧ r.size = (rs.getD 0 ByteArray.empty).size := by
  intro r hr
  obtain ⟨k, hk, rfl⟩ := List.getElem_of_mem hr
  have := hno k hk
  rw [List.getD_eq_getElem?_getD (i := k), List.getElem?_eq_getElem hk] at this
  simp only [Option.getD_some] at this
  unfold readE at this
  split at this
  · cases this
  rename_i h1
  split at this
  · cases this
  rename_i h2
  refine ⟨by simpa using h1, ?_⟩
  have h2 : ((rs[k].size : Int) == ((rs.getD 0 ByteArray.empty).size : Int)) = true := by simpa using h2
  have h3 := eq_of_beq h2
  omega
set_option maxRecDepth 100000 in
set_option maxHeartbeats 8000000 in
theorem goods_any (A0 : Option Addr) (c0 : Nat) (ls : List S77) (A1 : Option Addr) (c1 : Nat) (rs : List ByteArray) (w : World)
    (hl : Kd.C k77 w A0 ls.length ls) (hlc : ls.length ≤ c0) (hr : Kd.C Kd.string w A1 rs.length rs) :
    Calls Try.prog 93 #[.slice A0 ls.length c0, .slice A1 rs.length c1] w fun e w' => e = .returned (.int .i64 (goodsE ls rs)) ∧ Below w.heap.size w w' := by
  have hmax := Kd.C_max hl
  have hmax1 := Kd.C_max hr
  by_cases h0 : (12 : Int) < ls.length
  · go_enter Try.func93, Try.ntmps93
    go_wp2
    go_ret
    exact ⟨by rw [goodsE, if_pos h0]; rfl, Below.refl _ _⟩
  · have HE : Hid (goodsE ls rs = if tagsE ls ≠ 0 then tagsE ls else goods1E rs) := by show goodsE ls rs = _; rw [goodsE, if_neg h0]
    have h0' : (ls.length : Int) ≤ 12 := by omega
    clear h0
    go_enter Try.func93, Try.ntmps93
    go_wp2
    go_loopw [17] (fun i wr => ∃ k : Nat, k ≤ ls.length ∧ i = .int .i64 k ∧ Hid (∀ j, j < k → tagE (ls.take j) (ls.getD j z77) = 0) ∧ Below w.heap.size w wr) (fun i _ => ls.length - (intOf i).toNat)
    · exact ⟨0, Nat.zero_le _, rfl, fun j hj => absurd hj (by omega), Below.refl _ _⟩
    · obtain ⟨k, hk, rfl, hno, hnx⟩ := hrel
      by_cases hlt : k < ls.length
      · obtain ⟨ad, hA, p0, p1⟩ := at_T77 (Kd.C_below hl hnx) k (by omega) (by omega)
        subst hA
        simp only [Int.toNat_natCast] at p0 p1
        rw [rd_T77_at ls k hlt] at p0 p1
        obtain ⟨d, hd⟩ : ∃ d, d = ls[k] := ⟨_, rfl⟩
        rw [← hd] at p0 p1
        have HG : Hid (ls.getD k z77 = d) := by show ls.getD k z77 = d; rw [hd]; simp [List.getD_eq_getElem?_getD, List.getElem?_eq_getElem hlt]
        clear hd
        have hB1 := below_alloc' hnx (.cells (tagV d) 77)
        have b1 : Blk (wr.alloc (.cells (tagV d) 77)) wr.heap.size 77 (tagV d) := blk_new _ _ _
        have hz := hnx.size
        have hend : ∀ e : Int, tagE (ls.take k) d = e → e ≠ 0 → Hid (goodsE ls rs = e) := fun e he hne => by
          have h1 : tagsE ls = e := firstE_yes (fun k => tagE (ls.take k) (ls.getD k z77)) k e (by rw [HG.out]; exact he) hne hno.out _ hlt
          show goodsE ls rs = e
          rw [HE.out, h1, if_pos hne]
        have HEND := Lib.hid hend
        clear hend
        have CALL : ∀ (s : ByteArray) (W : World), Calls Try.prog 129 #[.agg #[.func (.func 128) #[] #[]], .string s] W fun e w' => e = .returned (.bool (readsB false s)) ∧ Below W.heap.size W w' := fun s W => reads_any false s W
        cases g1 : readsB false d.f0 with
        | false =>
          have HR := HEND.out 2 (by rw [tagE, if_pos g1]) (by omega)
          have q0 := b1.cell 0 rfl
          go_wp2_with (go_at_call 129; refine (CALL _ _).mono ?_; rw [g1]; rintro e w1 ⟨rfl, hB⟩)
          go_ret
          exact ⟨by rw [HR.out]; rfl, hB1.trans (hB.mono (by simp; omega))⟩
        | true =>
          cases g2 : inB d.f1 0 60 with
          | false =>
            have HR := HEND.out 1 (by rw [tagE, g1, if_neg (by simp), if_pos g2]) (by omega)
            have q0 := b1.cell 0 rfl
            go_wp2_with (first
              | (go_at_call 129; refine (CALL _ _).mono ?_; rw [g1]; rintro e w1 ⟨rfl, hB⟩; have q1 := (b1.below hB (by simp)).cell 1 rfl)
              | (go_at_call 81; refine (in_any _ _ _ _).mono ?_; rintro e w' ⟨rfl, rfl⟩))
            go_ret
            exact ⟨by rw [HR.out]; rfl, hB1.trans (hB.mono (by simp; omega))⟩
          | true =>
            have hkc : k ≤ c0 := by omega
            have hckA : Kd.C k77 (wr.alloc (.cells (tagV d) 77)) (some ad) k (ls.take k) := kC_take (Kd.C_alloc (Kd.C_below hl hnx) _) k hk
            cases g4 : hasCode (ls.take k) d with
            | true =>
              have HR := HEND.out 4 (by rw [tagE, g1, if_neg (by simp), g2, if_neg (by simp), if_pos g4]) (by omega)
              have q0 := b1.cell 0 rfl
              go_wp2_with (first
                | (go_at_call 129; refine (CALL _ _).mono ?_; rw [g1]; rintro e w1 ⟨rfl, hB⟩; have b2 := b1.below hB (by simp); have q1 := b2.cell 1 rfl; have hck := Kd.C_below hckA hB)
                | (go_at_call 81; refine (in_any _ _ _ _).mono ?_; rintro e w' ⟨rfl, rfl⟩)
                | (go_at_call 130; refine (contains130_any _ _ _ _ _ _ _ hck b2).mono ?_; rw [g4]; rintro e w2 ⟨rfl, hb2⟩))
              go_ret
              exact ⟨by rw [HR.out]; rfl, (hB1.trans (hB.mono (by simp; omega))).trans (hb2.mono (by have := hB.size; simp at this; omega))⟩
            | false =>
              have HZ : Hid (tagE (ls.take k) (ls.getD k z77) = 0) := by
                show _ = _
                rw [HG.out, tagE, g1, if_neg (by simp), g2, if_neg (by simp), g4, if_neg (by simp)]
              have q0 := b1.cell 0 rfl
              go_wp2_with (first
                | (go_at_call 129; refine (CALL _ _).mono ?_; rw [g1]; rintro e w1 ⟨rfl, hB⟩; have b2 := b1.below hB (by simp); have q1 := b2.cell 1 rfl; have hck := Kd.C_below hckA hB)
                | (go_at_call 81; refine (in_any _ _ _ _).mono ?_; rintro e w' ⟨rfl, rfl⟩)
                | (go_at_call 130; refine (contains130_any _ _ _ _ _ _ _ hck b2).mono ?_; rw [g4]; rintro e w2 ⟨rfl, hb2⟩))
              go_roundw
              case rel => exact ⟨k + 1, by omega, by go_num, fun j hj => by
                rcases Nat.lt_or_ge j k with h | h
                · exact hno.out j h
                · obtain rfl : j = k := by omega
                  exact HZ.out, (hB1.trans (hB.mono (by simp; omega))).trans (hb2.mono (by have := hB.size; simp at this; omega))⟩
              case measure => simp [intOf]; omega
      · obtain rfl : k = ls.length := by omega
        have HT : tagsE ls = 0 := firstE_no _ _ hno.out
        have HE1 : Hid (goodsE ls rs = goods1E rs) := by show _ = _; rw [HE.out, HT, if_neg (by simp)]
        clear HE HT hno
        have hr1 := Kd.C_below hr hnx
        have hz0 := hnx.size
        cases h1 : ((rs.length : Int) == 0) with
        | true =>
          go_wp2
          go_ret
          exact ⟨by rw [HE1.out, goods1E, if_pos (by simpa using h1)]; rfl, hnx⟩
        | false =>
          have h1' : ¬ (rs.length : Int) = 0 := by simpa using h1
          have h1'' : 0 < rs.length := by omega
          by_cases h2 : (4 : Int) < rs.length
          · go_wp2
            go_ret
            exact ⟨by rw [HE1.out, goods1E, if_neg h1', if_pos h2]; rfl, hnx⟩
          · have HE2 : Hid (goodsE ls rs = goods2E rs) := by show _ = _; rw [HE1.out, goods1E, if_neg h1', if_neg h2]
            clear HE1 h1'
            have CALL : ∀ (s : ByteArray) (W : World), Calls Try.prog 129 #[.agg #[.func (.func 132) #[] #[]], .string s] W fun e w' => e = .returned (.bool (readsB true s)) ∧ Below W.heap.size W w' := fun s W => reads_any true s W
            go_wp2
            have bR := blk_new wr 182 #[.func (.func 132) #[] #[]]
            have BR := below_alloc' hnx (.cells #[.func (.func 132) #[] #[]] 182)
            generalize wr.alloc (.cells #[.func (.func 132) #[] #[]] 182) = WR at *
            have hzr : w.heap.size ≤ wr.heap.size := hz0
            generalize hKR : wr.heap.size = KR at *
            obtain ⟨ad, hA, e0⟩ := Kd.at_string hr 0 (by omega) (by omega)
            subst hA
            have e1 : ad.add 0 = ad := by cases ad; rfl
            simp only [Int.toNat_zero] at e0
            rw [e1] at e0
            clear e1
            obtain ⟨r0, hr0⟩ : ∃ r0, r0 = rdOf ByteArray.empty rs 0 := ⟨_, rfl⟩
            have HR0 : Hid (rs.getD 0 ByteArray.empty = r0) := by show _ = _; rw [hr0]; simp [rdOf]
            rw [← hr0] at e0
            clear hr0
            go_loopw [51] (fun i wq => ∃ q : Nat, q ≤ rs.length ∧ i = .int .i64 q ∧ Hid (∀ j, j < q → readE rs (rs.getD j ByteArray.empty) = 0) ∧ Blk wq KR 182 #[.func (.func 132) #[] #[]] ∧ Below w.heap.size w wq) (fun i _ => rs.length - (intOf i).toNat)
            · exact ⟨0, Nat.zero_le _, rfl, fun j hj => absurd hj (by omega), bR, BR⟩
            · clear bR BR
              obtain ⟨q, hq, rfl, hno2, bq, nB⟩ := hrel
              have hsz2 := nB.size
              have hcr := Kd.C_below hr nB
              by_cases hlt2 : q < rs.length
              · obtain ⟨ad', hA', p0⟩ := Kd.at_string hcr q (by omega) (by omega)
                obtain rfl : ad = ad' := by injection hA'
                clear hA'
                simp only [Int.toNat_natCast] at p0
                have hrk : rdOf ByteArray.empty rs (q : Int) = rs.getD q ByteArray.empty := by simp [rdOf]
                rw [hrk] at p0
                obtain ⟨s, hs⟩ : ∃ s, s = rs.getD q ByteArray.empty := ⟨_, rfl⟩
                rw [← hs] at p0
                have HG : Hid (rs.getD q ByteArray.empty = s) := hs.symm
                clear hrk hs
                have hbq := bq.cell 0 rfl
                have hend : readE rs s = 2 → Hid (goodsE ls rs = 2) := fun he => by
                  have h1 : readsE rs = 2 := firstE_yes (fun k => readE rs (rs.getD k ByteArray.empty)) q 2 (by rw [HG.out]; exact he) (by omega) hno2.out _ hlt2
                  show _ = _
                  rw [HE2.out, goods2E, h1, if_pos (by omega)]
                have HEND := Lib.hid hend
                clear hend
                cases g1 : readsB true s with
                | false =>
                  have HR := HEND.out (by rw [readE, if_pos g1])
                  go_wp2_with (go_at_call 129; refine (CALL _ _).mono ?_; rw [g1]; rintro e w1 ⟨rfl, hB⟩)
                  go_ret
                  exact ⟨by rw [HR.out]; rfl, nB.trans (hB.mono nB.size)⟩
                | true =>
                  have e00 : ∀ w1, Below wr.heap.size wr w1 → w1.cell? ad = some (.string r0) := fun w1 hB => pw_cell_below (nB.trans (hB.mono nB.size)) e0
                  cases g2 : ((s.size : Int) == (r0.size : Int)) with
                  | false =>
                    have HR := HEND.out (by rw [readE, g1, if_neg (by simp), HR0.out, if_pos g2])
                    have g3 : decide (s.size = r0.size) = false := by
                      rw [decide_eq_false_iff_not]; intro h; rw [h] at g2; simp at g2
                    go_wp2_with (go_at_call 129; refine (CALL _ _).mono ?_; rw [g1]; rintro e w1 ⟨rfl, hB⟩; have e01 := e00 _ hB)
                    go_ret
                    exact ⟨by rw [HR.out]; rfl, nB.trans (hB.mono nB.size)⟩
                  | true =>
                    have HZ : Hid (readE rs (rs.getD q ByteArray.empty) = 0) := by
                      show _ = _
                      rw [HG.out, readE, g1, if_neg (by simp), HR0.out, g2, if_neg (by simp)]
                    have g3 : s.size = r0.size := by have := eq_of_beq g2; omega
                    have g4 : decide (s.size = r0.size) = true := by rw [g3]; simp
                    have HS := Lib.hid g3
                    clear g3
                    go_wp2_with (go_at_call 129; refine (CALL _ _).mono ?_; rw [g1]; rintro e w1 ⟨rfl, hB⟩; have e01 := e00 _ hB)
                    go_roundw
                    case rel => exact ⟨q + 1, by omega, by go_num, fun j hj => by
                      rcases Nat.lt_or_ge j q with h | h
                      · exact hno2.out j h
                      · obtain rfl : j = q := by omega
                        exact HZ.out, bq.below hB bq.lt, nB.trans (hB.mono nB.size)⟩
                    case measure => simp [intOf]; omega
              · obtain rfl : q = rs.length := by omega
                have HR2 : readsE rs = 0 := firstE_no _ _ hno2.out
                have hok := readsE_ok hno2.out
                have HE3 : Hid (goodsE ls rs = if (mergedS rs).2 = false then 9 else 0) := by
                  show _ = _
                  rw [HE2.out, goods2E, HR2, if_neg (by simp)]
                have h8 : r0.size ≤ 8 := by
                  have h1 := hok (rs.getD 0 ByteArray.empty) (by rw [List.getD_eq_getElem?_getD, List.getElem?_eq_getElem h1'']; exact List.getElem_mem _)
                  rw [HR0.out] at h1
                  exact readsB_size h1.1
                have HALL := Lib.hid (fun r hr' => (by rw [(hok r hr').2, HR0.out] : r.size = r0.size) : ∀ r ∈ rs, r.size = r0.size)
                have HM : ∀ W, Kd.C Kd.string W (some ad) rs.length rs → Calls Try.prog 94 #[.slice (some ad) rs.length c1] W fun e w' => e = .returned (.tuple #[.string (mergedS rs).1, .bool (mergedS rs).2]) ∧ Below W.heap.size W w' := fun W hW => merged_any (some ad) c1 rs r0.size W hW h1'' h8 HALL.out
                clear hok HR2 hno2 HE2
                obtain ⟨m, hm⟩ : ∃ m, m = mergedS rs := ⟨_, rfl⟩
                rw [← hm] at HE3 HM
                clear hm
                obtain ⟨m1, m2⟩ := m
                cases m2 with
                | false =>
                  go_wp2_with (go_at_call 94; refine (HM _ hcr).mono ?_; rintro e w1 ⟨rfl, hB⟩)
                  go_ret
                  exact ⟨by rw [HE3.out]; rfl, nB.trans (hB.mono nB.size)⟩
                | true =>
                  go_wp2_with (go_at_call 94; refine (HM _ hcr).mono ?_; rintro e w1 ⟨rfl, hB⟩)
                  go_ret
                  exact ⟨by rw [HE3.out]; rfl, nB.trans (hB.mono nB.size)⟩
end Go.Proofs.Ytkdlbocjgbmbdaa.Print

/-
  DERIVED: THE SHELF's CONTRACTS AT THIS DUMP, IN PLAIN WORDS (tools/lay-plain.mjs out of 'YtkdlbocjgbmbdaaShelf.lean', which tools/lay-shelf.mjs wrote): THE SAME DECLARATIONS UNDER THE SAME NAMES: 'import', 'namespace', 'open', 'def', 'theorem' AND NOTHING ELSE: no command of the shelf's: FOR A HAND-IN. Each laying: the table of numbers ('.._ren') and one theorem, a field a fact of the dump's own or the kernel's comparison; each contract: ONE APPLICATION.
-/
namespace Go.Proofs
open Go.Shelf
def Try.lays144_ren : Go.Shelf.Ren := ⟨fun | 144 => 96 | 143 => 133 | 219 => 150 | 217 => 161 | 225 => 162 | 224 => 163 | 267 => 164 | 266 => 172 | 314 => 173 | n => n, fun | 9 => 9 | 4 => 4 | 3 => 3 | 5 => 5 | 46 => 126 | 146 => 229 | 51 => 228 | n => n, fun | 1 => 0 | n => n⟩
theorem Try.lays144 : Go.Proofs.Lays.n144 Try.prog Try.lays144_ren := {
  mixed := by kernel_rfl
  f143 := Try.func133.trans (congrArg some (by kernel_rfl))
  f144 := Try.func96.trans (congrArg some (by kernel_rfl))
  f217 := Try.func161.trans (congrArg some (by kernel_rfl))
  f219 := Try.func150.trans (congrArg some (by kernel_rfl))
  f224 := Try.func163.trans (congrArg some (by kernel_rfl))
  f225 := Try.func162.trans (congrArg some (by kernel_rfl))
  f266 := Try.func172.trans (congrArg some (by kernel_rfl))
  f267 := Try.func164.trans (congrArg some (by kernel_rfl))
  f314 := Try.func173.trans (congrArg some (by kernel_rfl))
  t3 := Try.underlying3
  a3 := Try.isAgg3
  z3 := Try.sizeOf3
  v3 := Try.zeroValue3
  t4 := Try.underlying4
  a4 := Try.isAgg4
  z4 := Try.sizeOf4
  v4 := Try.zeroValue4
  t5 := Try.underlying5
  a5 := Try.isAgg5
  z5 := Try.sizeOf5
  v5 := Try.zeroValue5
  t9 := Try.underlying9
  a9 := Try.isAgg9
  z9 := Try.sizeOf9
  v9 := Try.zeroValue9
  t46 := Try.underlying126
  a46 := Try.isAgg126
  z46 := Try.sizeOf126
  v46 := Try.zeroValue126
  t51 := Try.underlying228
  a51 := Try.isAgg228
  z51 := Try.sizeOf228
  v51 := Try.zeroValue228
  t146 := Try.underlying229
  a146 := Try.isAgg229
  z146 := Try.sizeOf229
  v146 := Try.zeroValue229
  g1 := by kernel_rfl }
open Go.RowKit Go.Lib in
/-- strings.Contains: "Contains reports whether substr is within s.": AT A substr OF ONE BYTE c: IT RETURNS 'decide (0 ≤ Lib.indexByte s c)'; the world is as it was. (LAID: no walk: one application.) -/
theorem Try.strings_Contains_one (s : ByteArray) (c : UInt8) (w : World) :
    Calls Try.prog 96 #[.string s, .string ⟨#[c]⟩] w fun e w' => e = .returned (.bool (decide (0 ≤ Lib.indexByte s.data.toList c))) ∧ w' = w := Any.strings_Contains_one Try.lays144 s c w
end Go.Proofs

namespace Go.Proofs.Ytkdlbocjgbmbdaa.Print
open Go.RowKit Go.Shelf Go.Proofs.YtkdlbocjgbmbdaaW.PrintWords
set_option linter.unusedVariables false
attribute [local go_sem] Oper.semAt_some
attribute [local go_sem] wide_fn wide_asked
def fitB (c r : ByteArray) (j : Nat) : Bool := decide ((r.data.toList.getD j 0).toNat = 63) || decide ((r.data.toList.getD j 0).toNat = (c.data.toList.getD j 0).toNat)
def fitK (c r : ByteArray) (j : Nat) : Bool := (List.range j).all (fitB c r)
def fitsS (c r : ByteArray) : Bool := decide (c.size = r.size) && fitK c r c.size
theorem fitK_succ (c r : ByteArray) (j : Nat) : fitK c r (j + 1) = (fitK c r j && fitB c r j) := by
  simp [fitK, List.range_succ]
theorem fitK_false (c r : ByteArray) (j : Nat) (h : fitK c r j = false) : ∀ n, j ≤ n → fitK c r n = false
  | 0, hn => by obtain rfl : j = 0 := by omega
                exact h
  | n + 1, hn => by
    rcases Nat.lt_or_ge n j with h' | h'
    · obtain rfl : j = n + 1 := by omega
      exact h
    · rw [fitK_succ, fitK_false c r j h n h']; rfl
theorem getD_at (s : ByteArray) (j : Nat) (h : j < s.size) : s.data.toList.getD j 0 = s[j]'h := by
  rw [List.getD_eq_getElem?_getD, List.getElem?_eq_getElem (by simpa using h)]; rfl
set_option maxRecDepth 100000 in
set_option maxHeartbeats 4000000 in
theorem fits_any (c r : ByteArray) (hc : c.size ≤ 8) (w : World) :
    Calls Try.prog 95 #[.string c, .string r] w fun e w' => e = .returned (.bool (fitsS c r)) ∧ Below w.heap.size w w' := by
  by_cases hsz : c.size = r.size
  · have hd : ((c.size : Int) == (r.size : Int)) = true := by simp [hsz]
    have HF : Hid (fitsS c r = fitK c r c.size) := by show _ = _; simp [fitsS, hsz]
    have HS := Lib.hid hsz
    clear hsz
    go_enter Try.func95, Try.ntmps95
    go_wp2
    go_loopw [5, 6] (fun vb vi wr => ∃ (j : Nat) (b : Bool), j ≤ c.size ∧ vi = .int .i64 j ∧ vb = .bool b ∧ Hid (b = fitK c r j) ∧ Below w.heap.size w wr) (fun _ i _ => c.size - (intOf i).toNat)
    · exact ⟨0, true, Nat.zero_le _, rfl, rfl, rfl, Below.refl _ _⟩
    · obtain ⟨j, b, hj, rfl, rfl, HK, hB⟩ := hrel
      cases b with
      | false =>
        go_wp2
        go_ret
        exact ⟨by rw [HF.out, fitK_false c r j HK.out.symm _ hj]; rfl, hB⟩
      | true =>
        by_cases hlt : j < c.size
        · have hss := HS.out
          have hlr : j < r.size := by omega
          have HC : Hid (c.data.toList.getD j 0 = c[j]) := getD_at c j hlt
          have HR : Hid (r.data.toList.getD j 0 = r[j]) := getD_at r j hlr
          have hz : (j : Int) < (r.size : Int) := by omega
          clear hss
          have HST : Hid (∀ b, (((r[j].toNat : Int) == 63) || ((r[j].toNat : Int) == (c[j].toNat : Int))) = b → b = fitK c r (j + 1)) := fun b hb => by
            rw [fitK_succ, ← HK.out, Bool.true_and, fitB, HC.out, HR.out, ← hb]
            rw [Bool.eq_iff_iff]
            simp only [Bool.or_eq_true, beq_iff_eq, decide_eq_true_eq]
            omega
          cases g1 : ((r[j].toNat : Int) == 63) with
          | true =>
            have HE : Hid (true = fitK c r (j + 1)) := HST.out true (by rw [g1]; rfl)
            go_wp2
            go_quiet (fail)
            go_wp2
            exact ⟨⟨j + 1, true, by omega, by push_cast; rfl, rfl, HE, below_drewN' hB _⟩, by simp [intOf]; omega⟩
          | false =>
            cases g2 : ((r[j].toNat : Int) == (c[j].toNat : Int)) with
            | true =>
              have HE : Hid (true = fitK c r (j + 1)) := HST.out true (by rw [g1, g2]; rfl)
              go_wp2
              go_quiet (fail)
              go_wp2
              exact ⟨⟨j + 1, true, by omega, by push_cast; rfl, rfl, HE, below_drewN' hB _⟩, by simp [intOf]; omega⟩
            | false =>
              have HE : Hid (false = fitK c r (j + 1)) := HST.out false (by rw [g1, g2]; rfl)
              go_wp2
              go_quiet (fail)
              go_wp2
              exact ⟨⟨j + 1, false, by omega, by push_cast; rfl, rfl, HE, below_drewN' hB _⟩, by simp [intOf]; omega⟩
        · obtain rfl : j = c.size := by omega
          go_wp2
          go_ret
          exact ⟨by rw [HF.out, ← HK.out]; rfl, hB⟩
  · have hd : ((c.size : Int) == (r.size : Int)) = false := by simp; omega
    have HF : Hid (fitsS c r = false) := by show _ = _; simp [fitsS, hsz]
    clear hsz
    go_enter Try.func95, Try.ntmps95
    go_wp2
    go_loopw [5, 6] (fun vb vi wr => vb = .bool false ∧ Below w.heap.size w wr) (fun _ i _ => 0)
    · exact ⟨rfl, Below.refl _ _⟩
    · obtain ⟨rfl, hB⟩ := hrel
      go_wp2
      go_ret
      exact ⟨by rw [HF.out]; rfl, hB⟩
def fitIx (ls : List S77) (m : ByteArray) : Nat → List Int
  | 0 => []
  | k + 1 => fitIx ls m k ++ (if fitsS (ls.getD k z77).f0 m = true then [(k : Int)] else [])
theorem fitIx_len (ls : List S77) (m : ByteArray) : ∀ k, (fitIx ls m k).length ≤ k
  | 0 => Nat.le_refl _
  | k + 1 => by
    have := fitIx_len ls m k
    rw [fitIx, List.length_append]
    split <;> simp <;> omega
def openB (m : ByteArray) : Bool := decide (0 ≤ Lib.indexByte m.data.toList 63)
def matchR (ls : List S77) (rs : List ByteArray) : Int × List Int × Int :=
  if goodsE ls rs ≠ 0 then (0, [], goodsE ls rs) else
  if fitIx ls (mergedS rs).1 ls.length = [] then (2, [], 0) else if openB (mergedS rs).1 = true then (3, fitIx ls (mergedS rs).1 ls.length, 0) else (1, fitIx ls (mergedS rs).1 ls.length, 0)
structure GoodsOk (ls : List S77) (rs : List ByteArray) : Prop where
  few : ls.length ≤ 12
  ne : 0 < rs.length
  fewr : rs.length ≤ 4
  sizes : ∀ r ∈ rs, readsB true r = true ∧ r.size = (rs.getD 0 ByteArray.empty).size
  fine : (mergedS rs).2 = true
  tags : tagsE ls = 0
theorem goodsE_ok {ls : List S77} {rs : List ByteArray} (h : goodsE ls rs = 0) : GoodsOk ls rs := by
  unfold goodsE at h
  split at h
  · cases h
  rename_i h1
  split at h
  · rename_i h2; exact absurd h h2
  rename_i h2
  unfold goods1E at h
  split at h
  · cases h
  rename_i h3
  split at h
  · cases h
  rename_i h4
  unfold goods2E at h
  split at h
  · rename_i h5; exact absurd h h5
  rename_i h5
  split at h
  · cases h
  rename_i h6
  have h5 : readsE rs = 0 := by simpa using h5
  exact ⟨by omega, by omega, by omega, readsE_ok (firstE_zero _ _ h5), by simpa using h6, by simpa using h2⟩
theorem GoodsOk.size8 {ls : List S77} {rs : List ByteArray} (h : GoodsOk ls rs) : (rs.getD 0 ByteArray.empty).size ≤ 8 := by
  have h1 := h.sizes (rs.getD 0 ByteArray.empty) (by rw [List.getD_eq_getElem?_getD, List.getElem?_eq_getElem h.ne]; exact List.getElem_mem _)
  exact readsB_size h1.1
set_option maxRecDepth 100000 in
set_option maxHeartbeats 8000000 in
theorem match_any (A0 : Option Addr) (c0 : Nat) (ls : List S77) (A1 : Option Addr) (c1 : Nat) (rs : List ByteArray) (w : World)
    (hl : Kd.C k77 w A0 ls.length ls) (hlc : ls.length ≤ c0) (hr : Kd.C Kd.string w A1 rs.length rs) :
    Calls Try.prog 42 #[.slice A0 ls.length c0, .slice A1 rs.length c1] w fun e w' => ∃ v0_ : Value, e = .returned (.tuple #[.int .i64 (matchR ls rs).1, v0_, .int .i64 (matchR ls rs).2.2]) ∧ Kd.R (Kd.int .i64) 3 w' w.heap.size (fun _ => True) v0_ (matchR ls rs).2.1 ∧ Below w.heap.size w w' := by
  obtain ⟨t, ht⟩ : ∃ t, t = goodsE ls rs := ⟨_, rfl⟩
  have HT := Lib.hid ht
  by_cases h0 : t = 0
  · have hok : GoodsOk ls rs := goodsE_ok (by rw [← ht]; exact h0)
    have HR : Hid (matchR ls rs = if fitIx ls (mergedS rs).1 ls.length = [] then (2, [], 0) else if openB (mergedS rs).1 = true then (3, fitIx ls (mergedS rs).1 ls.length, 0) else (1, fitIx ls (mergedS rs).1 ls.length, 0)) := by
      show _ = _
      rw [matchR, ← ht, if_neg (by simpa using h0)]
    clear ht
    subst h0
    have HM : ∀ W, Below w.heap.size w W → Calls Try.prog 94 #[.slice A1 rs.length c1] W fun e w' => e = .returned (.tuple #[.string (mergedS rs).1, .bool (mergedS rs).2]) ∧ Below W.heap.size W w' := fun W hW => merged_any A1 c1 rs _ W (Kd.C_below hr hW) hok.ne hok.size8 fun r hr' => (hok.sizes r hr').2
    obtain ⟨m, hm⟩ : ∃ m, m = (mergedS rs).1 := ⟨_, rfl⟩
    rw [← hm] at HR HM
    clear hm
    have hmax := hok.few
    have H8 : Hid (∀ k, k < ls.length → (ls.getD k z77).f0.size ≤ 8) := fun k hk => by
      have h1 := firstE_zero _ _ hok.tags k hk
      unfold tagE at h1
      split at h1
      · cases h1
      rename_i h2
      exact readsB_size (by simpa using h2)
    clear hok
    go_enter Try.func42, Try.ntmps42
    go_wp2_with (first
      | (go_at_call 93; refine (goods_any A0 c0 ls A1 c1 rs _ hl hlc hr).mono ?_; rw [← HT.out]; rintro e w1 ⟨rfl, hB1⟩)
      | (go_at_call 94; refine (HM _ hB1).mono ?_; rintro e w2 ⟨rfl, hB2⟩))
    have hB := hB1.trans (hB2.mono hB1.size)
    clear hB1 hB2
    go_loopw [5, 25] (fun vt vi wr => ∃ (k : Nat) (ts : List Int), k ≤ ls.length ∧ vi = .int .i64 k ∧ Hid (ts = fitIx ls m k) ∧ Kd.R (Kd.int .i64) 3 wr w.heap.size (fun _ => True) vt ts ∧ Below w.heap.size w wr) (fun _ i _ => ls.length - (intOf i).toNat)
    · exact ⟨0, [], Nat.zero_le _, rfl, rfl, Kd.R_nil _ _ _ _ _, hB⟩
    · clear hB
      obtain ⟨k, ts, hk, rfl, HTS, hR, hB⟩ := hrel
      have hts : ts.length ≤ 12 := by have := fitIx_len ls m k; rw [← HTS.out] at this; omega
      have hz := hB.size
      by_cases hlt : k < ls.length
      · obtain ⟨ad, hA, p0, p1⟩ := at_T77 (Kd.C_below hl hB) k (by omega) (by omega)
        subst hA
        simp only [Int.toNat_natCast] at p0 p1
        rw [rd_T77_at ls k hlt] at p0 p1
        obtain ⟨d, hd⟩ : ∃ d, d = ls[k] := ⟨_, rfl⟩
        rw [← hd] at p0 p1
        have HG : Hid (ls.getD k z77 = d) := by show ls.getD k z77 = d; rw [hd]; simp [List.getD_eq_getElem?_getD, List.getElem?_eq_getElem hlt]
        have hd8 : d.f0.size ≤ 8 := by have := H8.out k hlt; rwa [HG.out] at this
        clear hd
        have b1 : Blk (wr.alloc (.cells (tagV d) 77)) wr.heap.size 77 (tagV d) := blk_new _ _ _
        have hB2 := below_alloc' hB (.cells (tagV d) 77)
        have hR2 := Kd.R_alloc hR (.cells (tagV d) 77)
        have q0 := b1.cell 0 rfl
        cases hs : fitsS d.f0 m with
        | true =>
          have HTS2 : Hid (ts ++ [(k : Int)] = fitIx ls m (k + 1)) := by show _ = _; rw [fitIx, HG.out, hs, if_pos rfl, ← HTS.out]
          go_wp2_with (first
            | (go_at_call 95; refine (fits_any _ _ hd8 _).mono ?_; rw [hs]; rintro e w1 ⟨rfl, hB3⟩; have hB4 := hB2.trans (hB3.mono (by simp; omega)); have hR4 := Kd.R_below hR2 hB3)
            | ((with_reducible refine gate_builtin (b := .append) (xs := #[.tmp 34, .tmp 36]) rfl ?_); at_builtin; refine Kd.R_append (Kd.int .i64) (w0 := w) w.heap.size rfl (.tmp 34) (.tmp 36) 27 3 (.int .i64 0) 8 rfl Try.underlying27 info3 rfl (by decide) (by omega) u5 ts (k : Int) [.int .i64 k] (fun _ => True) (fun _ => False) rfl rfl ?aP (fun _ hk => hk.elim) ?aF ?aO ?aB ?aS ?aL ?_; (case aP => exact rfl); (case aF => exact fun _ _ => trivial); (case aO => exact hR4); (case aB => exact hB4); (case aS => exact hB4.size); (case aL => omega); intro v1 w2 ho hb hg hat))
          refine ⟨⟨k + 1, _, by omega, by push_cast; rfl, HTS2, ho, hb⟩, by simp [intOf]; omega⟩
        | false =>
          have HTS2 : Hid (ts = fitIx ls m (k + 1)) := by show _ = _; rw [fitIx, HG.out, hs, if_neg (by simp), ← HTS.out, List.append_nil]
          go_wp2_with (go_at_call 95; refine (fits_any _ _ hd8 _).mono ?_; rw [hs]; rintro e w1 ⟨rfl, hB3⟩; have hB4 := hB2.trans (hB3.mono (by simp; omega)); have hR4 := Kd.R_below hR2 hB3)
          refine ⟨⟨k + 1, _, by omega, by push_cast; rfl, HTS2, hR4, hB4⟩, by simp [intOf]; omega⟩
      · obtain rfl : k = ls.length := by omega
        obtain ⟨o, ho⟩ : ∃ o, o = openB m := ⟨_, rfl⟩
        have HO := Lib.hid ho
        have HR1 : Hid (matchR ls rs = if ts = [] then (2, [], 0) else if o = true then (3, ts, 0) else (1, ts, 0)) := by show _ = _; rw [HR.out, ← HTS.out, ← ho]
        clear ho HR HTS H8
        obtain ⟨A5, c5, e5⟩ := Kd.R_slice hR
        subst e5
        by_cases h1 : ts = []
        · have HR2 : Hid (matchR ls rs = (2, [], 0)) := by show _ = _; rw [HR1.out, if_pos h1]
          have hl0 : ((ts.length : Int) == 0) = true := by rw [h1]; rfl
          clear h1 HR1
          go_wp2
          go_ret3
          exact ⟨_, by rw [HR2.out]; rfl, by rw [HR2.out]; exact Kd.R_nil _ _ _ _ _, hB⟩
        · have hl0 : ((ts.length : Int) == 0) = false := by
            have : ts.length ≠ 0 := fun h => h1 (List.length_eq_zero_iff.1 h)
            simp; omega
          cases o with
          | true =>
            have HR2 : Hid (matchR ls rs = (3, ts, 0)) := by show _ = _; rw [HR1.out, if_neg h1, if_pos rfl]
            clear h1 HR1
            go_wp2_with (go_at_call 96; refine (Try.strings_Contains_one m 63 _).mono ?_; rw [show decide (0 ≤ Lib.indexByte m.data.toList 63) = true from HO.out.symm]; rintro e w1 ⟨rfl, rfl⟩)
            go_ret3
            exact ⟨_, by rw [HR2.out]; rfl, by rw [HR2.out]; exact hR, hB⟩
          | false =>
            have HR2 : Hid (matchR ls rs = (1, ts, 0)) := by show _ = _; rw [HR1.out, if_neg h1, if_neg (by simp)]
            clear h1 HR1
            go_wp2_with (go_at_call 96; refine (Try.strings_Contains_one m 63 _).mono ?_; rw [show decide (0 ≤ Lib.indexByte m.data.toList 63) = false from HO.out.symm]; rintro e w1 ⟨rfl, rfl⟩)
            go_ret3
            exact ⟨_, by rw [HR2.out]; rfl, by rw [HR2.out]; exact hR, hB⟩
  · have HR : Hid (matchR ls rs = (0, [], t)) := by show _ = _; rw [matchR, ← ht, if_pos h0]
    clear ht
    go_enter Try.func42, Try.ntmps42
    go_wp2_with (go_at_call 93; refine (goods_any A0 c0 ls A1 c1 rs _ hl hlc hr).mono ?_; rw [← HT.out]; rintro e w1 ⟨rfl, hB1⟩)
    refine bodyPost_ret (v := .tuple #[.int .i64 0, .slice none 0 0, .int .i64 t]) (by simp [results, Try.results42, go_sem]) rfl ⟨_, by rw [HR.out], ?_, hB1⟩
    rw [HR.out]
    exact Kd.R_nil _ _ _ _ _
end Go.Proofs.Ytkdlbocjgbmbdaa.Print

namespace Go.Proofs.Ytkdlbocjgbmbdaa.Print
open Go.RowKit Go.Shelf Go.Proofs.YtkdlbocjgbmbdaaW.PrintWords
set_option linter.unusedVariables false
attribute [local go_sem] Oper.semAt_some
attribute [local go_sem] wide_fn wide_asked
def z24' : S24 := ⟨0, 0⟩
def rangeV (x : S24) : Array Value := #[.int .i64 x.f0, .int .i64 x.f1]
def stockE (x : S24) : Int := if inB x.f0 0 1000000 = false then 1 else if inB x.f1 0 1000000 = false then 1 else if x.f1 < x.f0 then 5 else 0
def stocksE (st : List S24) : Int := firstE (fun k => stockE (st.getD k z24')) st.length
def lotsE (lot bound held : Int) : Int := if inB lot 1 1000000 = false then 1 else if inB bound 0 1000000 = false then 1 else if inB held 0 50 = false then 1 else 0
def hedgeE (st : List S24) (lot bound held : Int) : Int :=
  if (st.length : Int) = 0 then 7 else if (20 : Int) < st.length then 6 else if stocksE st ≠ 0 then stocksE st else lotsE lot bound held
theorem rd_T24_at (xs : List S24) (k : Nat) (h : k < xs.length) : rd_T24 xs (k : Int) = xs[k] := by
  simp [rd_T24, List.getD_eq_getElem?_getD, List.getElem?_eq_getElem h]
set_option maxRecDepth 100000 in
set_option maxHeartbeats 8000000 in
theorem checkHedge_any (A : Option Addr) (c : Nat) (st : List S24) (lot bound held : Int) (w : World) (hC : Kd.C k24 w A st.length st) :
    Calls Try.prog 103 #[.agg #[.slice A st.length c, .int .i64 lot, .int .i64 bound, .int .i64 held]] w fun e w' => e = .returned (.int .i64 (hedgeE st lot bound held)) ∧ Below w.heap.size w w' := by
  have hmax := Kd.C_max hC
  have hB0 : Below w.heap.size w (w.alloc (.cells #[.slice A st.length c, .int .i64 lot, .int .i64 bound, .int .i64 held] 87)) := below_alloc (Below.refl _ _) _
  have b0 := blk_new w 87 #[.slice A st.length c, .int .i64 lot, .int .i64 bound, .int .i64 held]
  cases h0 : ((st.length : Int) == 0) with
  | true =>
    go_enter Try.func103, Try.ntmps103
    go_wp2
    go_ret
    exact ⟨by rw [hedgeE, if_pos (by simpa using h0)]; rfl, hB0⟩
  | false =>
    have h0' : ¬ (st.length : Int) = 0 := by simpa using h0
    by_cases h1 : (20 : Int) < st.length
    · have h1' : (st.length : Int) ≠ 0 := h0'
      have HE : Hid (hedgeE st lot bound held = 6) := by show _ = _; rw [hedgeE, if_neg h0', if_pos h1]
      clear h0' h1'
      go_enter Try.func103, Try.ntmps103
      go_wp2
      go_ret
      exact ⟨by rw [HE.out]; rfl, hB0⟩
    · have HE : Hid (hedgeE st lot bound held = if stocksE st ≠ 0 then stocksE st else lotsE lot bound held) := by show _ = _; rw [hedgeE, if_neg h0', if_neg h1]
      clear h0'
      go_enter Try.func103, Try.ntmps103
      go_wp2
      generalize w.alloc (.cells #[.slice A st.length c, .int .i64 lot, .int .i64 bound, .int .i64 held] 87) = W0 at *
      go_loopw [18] (fun i wr => ∃ k : Nat, k ≤ st.length ∧ i = .int .i64 k ∧ Hid (∀ j, j < k → stockE (st.getD j z24') = 0) ∧ Blk wr w.heap.size 87 #[.slice A st.length c, .int .i64 lot, .int .i64 bound, .int .i64 held] ∧ Below w.heap.size w wr) (fun i _ => st.length - (intOf i).toNat)
      · exact ⟨0, Nat.zero_le _, rfl, fun j hj => absurd hj (by omega), b0, hB0⟩
      · clear b0 hB0
        obtain ⟨k, hk, rfl, hno, n0, hnx⟩ := hrel
        have hz := hnx.size
        have hz2 := n0.lt
        by_cases hlt : k < st.length
        · obtain ⟨ad, hA, p0, p1⟩ := at_T24 (Kd.C_below hC hnx) k (by omega) (by omega)
          subst hA
          simp only [Int.toNat_natCast] at p0 p1
          rw [rd_T24_at st k hlt] at p0 p1
          obtain ⟨d, hd⟩ : ∃ d, d = st[k] := ⟨_, rfl⟩
          rw [← hd] at p0 p1
          have HG : Hid (st.getD k z24' = d) := by show _ = d; rw [hd]; simp [List.getD_eq_getElem?_getD, List.getElem?_eq_getElem hlt]
          clear hd
          have hend : ∀ e : Int, stockE d = e → e ≠ 0 → Hid (hedgeE st lot bound held = e) := fun e he hne => by
            have h1 : stocksE st = e := firstE_yes (fun k => stockE (st.getD k z24')) k e (by rw [HG.out]; exact he) hne hno.out _ hlt
            show _ = e
            rw [HE.out, h1, if_pos hne]
          have HEND := Lib.hid hend
          clear hend
          have hB1 := below_alloc' hnx (.cells (rangeV d) 24)
          cases g1 : inB d.f0 0 1000000 with
          | false =>
            have HR := HEND.out 1 (by rw [stockE, if_pos g1]) (by omega)
            go_wp2_with (go_at_call 81; refine (in_any _ _ _ _).mono ?_; rintro e w' ⟨rfl, rfl⟩)
            go_ret
            exact ⟨by rw [HR.out]; rfl, hB1⟩
          | true =>
            cases g2 : inB d.f1 0 1000000 with
            | false =>
              have HR := HEND.out 1 (by rw [stockE, g1, if_neg (by simp), if_pos g2]) (by omega)
              go_wp2_with (go_at_call 81; refine (in_any _ _ _ _).mono ?_; rintro e w' ⟨rfl, rfl⟩)
              go_ret
              exact ⟨by rw [HR.out]; rfl, hB1⟩
            | true =>
              by_cases g3 : d.f1 < d.f0
              · have HR := HEND.out 5 (by rw [stockE, g1, if_neg (by simp), g2, if_neg (by simp), if_pos g3]) (by omega)
                go_wp2_with (go_at_call 81; refine (in_any _ _ _ _).mono ?_; rintro e w' ⟨rfl, rfl⟩)
                go_ret
                exact ⟨by rw [HR.out]; rfl, hB1⟩
              · have HZ : Hid (stockE (st.getD k z24') = 0) := by
                  show _ = _
                  rw [HG.out, stockE, g1, if_neg (by simp), g2, if_neg (by simp), if_neg g3]
                go_wp2_with (go_at_call 81; refine (in_any _ _ _ _).mono ?_; rintro e w' ⟨rfl, rfl⟩)
                go_roundw
                case rel => exact ⟨k + 1, by omega, by go_num, fun j hj => by
                  rcases Nat.lt_or_ge j k with h | h
                  · exact hno.out j h
                  · obtain rfl : j = k := by omega
                    exact HZ.out, n0.alloc _, hB1⟩
                case measure => simp [intOf]; omega
        · obtain rfl : k = st.length := by omega
          have HT : stocksE st = 0 := firstE_no _ _ hno.out
          have HE1 : Hid (hedgeE st lot bound held = lotsE lot bound held) := by show _ = _; rw [HE.out, HT, if_neg (by simp)]
          clear HE HT hno
          have m1 := n0.cell 1 rfl
          have m2 := n0.cell 2 rfl
          have m3 := n0.cell 3 rfl
          cases g1 : inB lot 1 1000000 with
          | false =>
            go_wp2_with (go_at_call 81; refine (in_any _ _ _ _).mono ?_; rintro e w' ⟨rfl, rfl⟩)
            go_ret
            exact ⟨by rw [HE1.out, lotsE, if_pos g1]; rfl, hnx⟩
          | true =>
            cases g2 : inB bound 0 1000000 with
            | false =>
              go_wp2_with (go_at_call 81; refine (in_any _ _ _ _).mono ?_; rintro e w' ⟨rfl, rfl⟩)
              go_ret
              exact ⟨by rw [HE1.out, lotsE, g1, if_neg (by simp), if_pos g2]; rfl, hnx⟩
            | true =>
              cases g3 : inB held 0 50 with
              | false =>
                go_wp2_with (go_at_call 81; refine (in_any _ _ _ _).mono ?_; rintro e w' ⟨rfl, rfl⟩)
                go_ret
                exact ⟨by rw [HE1.out, lotsE, g1, if_neg (by simp), g2, if_neg (by simp), if_pos g3]; rfl, hnx⟩
              | true =>
                go_wp2_with (go_at_call 81; refine (in_any _ _ _ _).mono ?_; rintro e w' ⟨rfl, rfl⟩)
                go_ret
                exact ⟨by rw [HE1.out, lotsE, g1, if_neg (by simp), g2, if_neg (by simp), g3, if_neg (by simp)]; rfl, hnx⟩
structure HedgeOk (st : List S24) (lot bound held : Int) : Prop where
  ne : 0 < st.length
  few : st.length ≤ 20
  stock : ∀ x ∈ st, 0 ≤ x.f0 ∧ x.f0 ≤ x.f1 ∧ x.f1 ≤ 1000000
  l1 : 1 ≤ lot
  l2 : lot ≤ 1000000
  b0 : 0 ≤ bound
  b1 : bound ≤ 1000000
  h0 : 0 ≤ held
  h1 : held ≤ 50
theorem hedgeE_ok {st : List S24} {lot bound held : Int} (h : hedgeE st lot bound held = 0) : HedgeOk st lot bound held := by
  unfold hedgeE at h
  split at h
  · cases h
  rename_i h1
  split at h
  · cases h
  rename_i h2
  split at h
  · rename_i h3; exact absurd h h3
  rename_i h3
  have h3 : stocksE st = 0 := by simpa using h3
  unfold lotsE at h
  split at h
  · cases h
  rename_i h4
  split at h
  · cases h
  rename_i h5
  split at h
  · cases h
  rename_i h6
  have := inB_true h4
  have := inB_true h5
  have := inB_true h6
  refine ⟨by omega, by omega, fun x hx => ?_, by omega, by omega, by omega, by omega, by omega, by omega⟩
  obtain ⟨k, hk, rfl⟩ := List.getElem_of_mem hx
  have h7 := firstE_zero _ _ h3 k hk
  rw [List.getD_eq_getElem?_getD (i := k), List.getElem?_eq_getElem hk] at h7
  simp only [Option.getD_some] at h7
  unfold stockE at h7
  split at h7
  · cases h7
  rename_i g1
  split at h7
  · cases h7
  rename_i g2
  split at h7
  · cases h7
  have := inB_true g1
  have := inB_true g2
  omega
end Go.Proofs.Ytkdlbocjgbmbdaa.Print

namespace Go.Proofs.Ytkdlbocjgbmbdaa.Print
open Go.RowKit Go.Shelf Go.Proofs.YtkdlbocjgbmbdaaW.PrintWords
set_option linter.unusedVariables false
attribute [local go_sem] Oper.semAt_some
attribute [local go_sem] wide_fn wide_asked
def expo0 (st : List S24) (lot : Int) (d : Nat) (l : Int) : Int := (st.getD d z24').f0 - lot * l
def expo1 (st : List S24) (lot : Int) (d : Nat) (l : Int) : Int := (st.getD d z24').f1 - lot * l
theorem expo_bound {st : List S24} {lot bound held : Int} (hok : HedgeOk st lot bound held) {d : Nat} (hd : d < st.length) {l : Int} (h0 : 0 ≤ l) (h1 : l ≤ 50) :
    -50000000 ≤ expo0 st lot d l ∧ expo0 st lot d l ≤ expo1 st lot d l ∧ expo1 st lot d l ≤ 1000000 ∧ 0 ≤ lot * l ∧ lot * l ≤ 50000000 := by
  have hs := hok.stock st[d] (List.getElem_mem _)
  have e : st.getD d z24' = st[d] := by simp [List.getD_eq_getElem?_getD, List.getElem?_eq_getElem hd]
  have hl1 := hok.l1
  have hl2 := hok.l2
  have p1 : 0 ≤ lot * l := Int.mul_nonneg (by omega) h0
  have p2 : lot * l ≤ 1000000 * 50 := Int.mul_le_mul hl2 h1 h0 (by omega)
  unfold expo0 expo1
  rw [e]
  omega
theorem cell_same {W W' : World} (h : W'.heap = W.heap) {p : Addr} {v : Value} (hv : W.cell? p = some v) : W'.cell? p = some v := by rw [← hv]; simp only [World.cell?, h]
set_option maxRecDepth 100000 in
set_option maxHeartbeats 8000000 in
theorem exposed_any (A : Option Addr) (c : Nat) (st : List S24) (lot bound held : Int) (d : Nat) (l : Int) (w : World) (hC : Kd.C k24 w A st.length st) (hok : HedgeOk st lot bound held) (hd : d < st.length) (h0 : 0 ≤ l) (h1 : l ≤ 50) :
    Calls Try.prog 106 #[.agg #[.slice A st.length c, .int .i64 lot, .int .i64 bound, .int .i64 held], .int .i64 (d : Int), .int .i64 l] w fun e w' => e = .returned (.agg #[.int .i64 (expo0 st lot d l), .int .i64 (expo1 st lot d l)]) ∧ Below w.heap.size w w' := by
  have hmax := Kd.C_max hC
  have hbd := expo_bound hok hd h0 h1
  obtain ⟨ad, hA, p0, p1⟩ := at_T24 hC d (by omega) (by omega)
  subst hA
  simp only [Int.toNat_natCast] at p0 p1
  rw [rd_T24_at st d hd] at p0 p1
  have HG : Hid (st.getD d z24' = st[d]) := by show _ = st[d]; simp [List.getD_eq_getElem?_getD, List.getElem?_eq_getElem hd]
  have HE0 : Hid (expo0 st lot d l = st[d].f0 - lot * l) := by show expo0 st lot d l = _; rw [expo0, HG.out]
  have HE1 : Hid (expo1 st lot d l = st[d].f1 - lot * l) := by show expo1 st lot d l = _; rw [expo1, HG.out]
  rw [HE0.out, HE1.out] at hbd
  rw [HE0.out, HE1.out]
  obtain ⟨x, hx⟩ : ∃ x, x = st[d] := ⟨_, rfl⟩
  rw [← hx] at hbd p0 p1
  rw [← hx]
  clear hx HE0 HE1 HG
  have hst := (hok.few)
  have hne := hok.ne
  obtain ⟨q, hq⟩ : ∃ q, q = lot * l := ⟨_, rfl⟩
  obtain ⟨W0, hW0⟩ : ∃ W0, W0 = (w.alloc (.cells #[.slice (some ad) st.length c, .int .i64 lot, .int .i64 bound, .int .i64 held] 87)).alloc (.cells #[.int .i64 0, .int .i64 0] 24) := ⟨_, rfl⟩
  have b0 : Blk W0 w.heap.size 87 #[.slice (some ad) st.length c, .int .i64 lot, .int .i64 bound, .int .i64 held] := by rw [hW0]; exact (blk_new w 87 _).alloc _
  have b1 : Blk W0 (w.heap.size + 1) 24 #[.int .i64 0, .int .i64 0] := by rw [hW0]; exact blk_new' (by simp)
  have B0 : Below w.heap.size w W0 := by rw [hW0]; exact below_alloc (below_alloc (Below.refl _ _) _) _
  have hw1 : IntKind.i64.wrap (lot * l) = lot * l := IntWalk.i64_in _ (by omega)
  have hw2 : IntKind.i64.wrap (x.f0 - lot * l) = x.f0 - lot * l := IntWalk.i64_in _ (by omega)
  have hw3 : IntKind.i64.wrap (x.f1 - lot * l) = x.f1 - lot * l := IntWalk.i64_in _ (by omega)
  have hz0 : (0 : Int) ≤ (d : Int) := by omega
  have hz1 : (d : Int) < (st.length : Int) := by omega
  have p0' := pw_cell_below B0 p0
  have p1' := pw_cell_below B0 p1
  clear hq q p0 p1
  clear hbd
  go_enter Try.func106, Try.ntmps106
  go_wp2
  rw [← hW0]
  clear hW0
  refine wp_region_quiet_tail 23 (by kernel_rfl) (by kernel_rfl) ?_
  simp only [List.take_succ_cons, List.take_zero, List.drop_succ_cons, List.drop_zero]
  intro wd hwd hbd
  have d0 := b0.same hwd
  have d1 := b1.same hwd
  have Bd := hbd _ _ B0
  have c0 := d0.cell 0 rfl
  have c1 := d0.cell 1 rfl
  have q0 := cell_same hwd p0'
  have q1 := cell_same hwd p1'
  have u0 := d1.cell 0 rfl
  have u1 := d1.cell 1 rfl
  have v0 := d1.frozen 0
  have v1 := (d1.set 0 (.int .i64 (x.f0 - lot * l))).frozen 1
  have x1 : Blk ((wd.setCell ⟨w.heap.size + 1, 0, none⟩ (.int .i64 (x.f0 - lot * l))).setCell ⟨w.heap.size + 1, 1, none⟩ (.int .i64 (x.f1 - lot * l))) (w.heap.size + 1) 24 #[.int .i64 (x.f0 - lot * l), .int .i64 (x.f1 - lot * l)] := (d1.set 0 (.int .i64 (x.f0 - lot * l))).set 1 (.int .i64 (x.f1 - lot * l))
  clear hbd p0' p1' hwd
  repeat (go_big_quiet_step (fail))
  refine wpQuiet_nil ?_
  go_wp2
  refine bodyPost_ret (v := .agg #[.int .i64 (x.f0 - lot * l), .int .i64 (x.f1 - lot * l)]) ?_ rfl ⟨rfl, (Bd.setCell (p := ⟨w.heap.size + 1, 0, none⟩) (by dsimp only; omega) _).setCell (p := ⟨w.heap.size + 1, 1, none⟩) (by dsimp only; omega) _⟩
  simp [results, Try.results106, asAddr, run_loadVar_row _ (w.heap.size + 1) 24 24 _ (0, 0) _ x1 Try.underlying24 rfl (by kernel_rfl)]
theorem apart_any (a b : Int) (w : World) (ha : 0 ≤ a ∧ a ≤ 50) (hb : 0 ≤ b ∧ b ≤ 50) : Calls Try.prog 110 #[.int .i64 a, .int .i64 b] w fun e w' => e = .returned (.int .i64 (max (a - b) (b - a))) ∧ w' = w := by
  have h1 := ha.1
  have h2 := ha.2
  have h3 := hb.1
  have h4 := hb.2
  clear ha hb
  by_cases h : a - b ≤ b - a
  · have e : max (a - b) (b - a) = b - a := by omega
    rw [e]
    go_enter Try.func110, Try.ntmps110
    go_wp2
    go_ret
    exact ⟨by simp, rfl⟩
  · have e : max (a - b) (b - a) = a - b := by omega
    rw [e]
    go_enter Try.func110, Try.ntmps110
    go_wp2
    go_ret
    exact ⟨by simp, rfl⟩
end Go.Proofs.Ytkdlbocjgbmbdaa.Print

namespace Go.Proofs.Ytkdlbocjgbmbdaa.Print
open Go.RowKit Go.Shelf Go.Proofs.YtkdlbocjgbmbdaaW.PrintWords
set_option linter.unusedVariables false
attribute [local go_sem] Oper.semAt_some
attribute [local go_sem] wide_fn wide_asked
theorem exposed1_any (n : Int) (w : World) : Calls Try.prog 105 #[.int .i64 n] w fun e w' => e = .returned (.bool (!inB n 0 50)) ∧ w' = w := by
  obtain ⟨b, hb⟩ : ∃ b, b = inB n 0 50 := ⟨_, rfl⟩
  rw [← hb]
  have HB := Lib.hid hb
  clear hb
  go_enter Try.func105, Try.ntmps105
  go_wp2_with (go_at_call 81; refine (in_any _ _ _ _).mono ?_; rw [← HB.out]; rintro e w' ⟨rfl, rfl⟩)
  go_ret
  exact ⟨rfl, rfl⟩
theorem rd_at (xs : List Int) (k : Nat) (h : k < xs.length) : rd xs (k : Int) = xs[k] := by
  simp [rd, List.getD_eq_getElem?_getD, List.getElem?_eq_getElem h]
set_option maxRecDepth 100000 in
set_option maxHeartbeats 4000000 in
theorem index135_any (A : Option Addr) (c : Nat) (ls : List Int) (w : World) (hC : Kd.C (Kd.int .i64) w A ls.length ls) :
    Calls Try.prog 135 #[.slice A ls.length c, .func (.func 105) #[] #[]] w fun e w' => e = .returned (.int .i64 (firstI (fun j => !inB (ls.getD j 0) 0 50) ls.length)) ∧ w' = w := by
  have hmax := Kd.C_max hC
  obtain ⟨r, hr⟩ : ∃ r, r = firstI (fun j => !inB (ls.getD j 0) 0 50) ls.length := ⟨_, rfl⟩
  have HR := Lib.hid hr
  rw [← hr]
  clear hr
  go_enter Try.func135, Try.ntmps135
  go_wp2
  go_loop [8] (fun i => ∃ k : Nat, k ≤ ls.length ∧ i = .int .i64 k ∧ Hid (∀ j, j < k → (!inB (ls.getD j 0) 0 50) = false)) (fun i => ls.length - (intOf i).toNat)
  case atStart => exact ⟨0, Nat.zero_le _, rfl, fun j hj => absurd hj (by omega)⟩
  case round =>
    obtain ⟨k, hk, rfl, hno⟩ := hrel
    by_cases hlt : k < ls.length
    · obtain ⟨ad, hA, c0⟩ := Kd.at_int hC k (by omega) (by omega)
      subst hA
      simp only [Int.toNat_natCast] at c0
      rw [rd_at ls k hlt] at c0
      obtain ⟨d, hd⟩ : ∃ d, d = ls[k] := ⟨_, rfl⟩
      rw [← hd] at c0
      have HG : Hid (ls.getD k 0 = d) := by show _ = d; rw [hd]; simp [List.getD_eq_getElem?_getD, List.getElem?_eq_getElem hlt]
      clear hd
      cases hs : inB d 0 50
      all_goals go_wp2_with (go_at_call 105; refine (exposed1_any _ _).mono ?_; rw [hs]; rintro e w1 ⟨rfl, rfl⟩)
      · go_ret
        exact ⟨by rw [HR.out, firstI_yes (fun j => !inB (ls.getD j 0) 0 50) k (by rw [HG.out, hs]; rfl) hno.out _ hlt]; rfl, rfl⟩
      · go_round
        case rel => exact ⟨k + 1, by omega, by go_num, fun j hj => by
          rcases Nat.lt_or_ge j k with h | h
          · exact hno.out j h
          · obtain rfl : j = k := by omega
            rw [HG.out, hs]; rfl⟩
        case measure => simp [intOf]; omega
    · obtain rfl : k = ls.length := by omega
      go_wp2
      go_ret
      exact ⟨by rw [HR.out, firstI_no (fun j => !inB (ls.getD j 0) 0 50) _ hno.out]; rfl, rfl⟩
def badLot (ls : List Int) : Bool := ls.any fun n => !inB n 0 50
set_option maxHeartbeats 1000000 in
theorem contains104_any (A : Option Addr) (n c : Nat) (ls : List Int) (w : World) (hC : Kd.C (Kd.int .i64) w A n ls) :
    Calls Try.prog 104 #[.slice A n c, .func (.func 105) #[] #[]] w fun e w' => e = .returned (.bool (badLot ls)) ∧ w' = w := by
  obtain rfl : ls.length = n := Kd.C_len hC
  have HE : Hid (decide (0 ≤ firstI (fun j => !inB (ls.getD j 0) 0 50) ls.length) = badLot ls) := firstI_any (fun n => !inB n 0 50) 0 ls
  obtain ⟨i, hi⟩ : ∃ i, i = firstI (fun j => !inB (ls.getD j 0) 0 50) ls.length := ⟨_, rfl⟩
  have HI : Hid (i = firstI (fun j => !inB (ls.getD j 0) 0 50) ls.length) := hi
  clear hi
  go_enter Try.func104, Try.ntmps104
  go_wp2_with (go_at_call 135; refine (index135_any _ _ _ _ hC).mono ?_; rw [← HI.out]; rintro e w1 ⟨rfl, rfl⟩)
  go_ret
  refine ⟨?_, rfl⟩
  rw [← HE.out, ← HI.out]
  rfl
theorem info87s : (Try.prog.info? 87).map (·.size) = some 4 := by kernel_rfl
def exposL (st : List S24) (lot : Int) (plan : List Int) : Nat → List S24
  | 0 => []
  | k + 1 => exposL st lot plan k ++ [⟨expo0 st lot k (plan.getD k 0), expo1 st lot k (plan.getD k 0)⟩]
theorem exposL_len (st : List S24) (lot : Int) (plan : List Int) : ∀ k, (exposL st lot plan k).length = k
  | 0 => rfl
  | k + 1 => by rw [exposL, List.length_append, exposL_len st lot plan k]; rfl
def exposedR (st : List S24) (lot bound held : Int) (plan : List Int) : List S24 × Int :=
  if hedgeE st lot bound held ≠ 0 then ([], hedgeE st lot bound held) else if ((plan.length : Int) == (st.length : Int)) = false then ([], 2) else if badLot plan = true then ([], 1) else (exposL st lot plan plan.length, 0)
set_option maxRecDepth 100000 in
set_option maxHeartbeats 8000000 in
theorem Exposed_any (A : Option Addr) (c : Nat) (st : List S24) (lot bound held : Int) (A1 : Option Addr) (c1 : Nat) (plan : List Int) (w : World) (hC : Kd.C k24 w A st.length st) (hP : Kd.C (Kd.int .i64) w A1 plan.length plan) :
    Calls Try.prog 57 #[.agg #[.slice A st.length c, .int .i64 lot, .int .i64 bound, .int .i64 held], .slice A1 plan.length c1] w fun e w' => ∃ v0_ : Value, e = .returned (.tuple #[v0_, .int .i64 (exposedR st lot bound held plan).2]) ∧ Kd.R k24 24 w' w.heap.size (fun _ => True) v0_ (exposedR st lot bound held plan).1 ∧ Below w.heap.size w w' := by
  have hmax := Kd.C_max hP
  obtain ⟨t, ht⟩ : ∃ t, t = hedgeE st lot bound held := ⟨_, rfl⟩
  have HT := Lib.hid ht
  have b0 := blk_new w 87 #[.slice A st.length c, .int .i64 lot, .int .i64 bound, .int .i64 held]
  have B0 : Below w.heap.size w (w.alloc (.cells #[.slice A st.length c, .int .i64 lot, .int .i64 bound, .int .i64 held] 87)) := below_alloc (Below.refl _ _) _
  have hCH := checkHedge_any A c st lot bound held _ (Kd.C_below hC B0)
  rw [← ht] at hCH
  have HI87 : (Try.prog.info? 87).map (·.size) = some (#[Value.slice A st.length c, .int .i64 lot, .int .i64 bound, .int .i64 held] : Array Value).size := info87s
  by_cases h0 : t = 0
  · have hok : HedgeOk st lot bound held := hedgeE_ok (by rw [← ht]; exact h0)
    have HR : Hid (exposedR st lot bound held plan = if ((plan.length : Int) == (st.length : Int)) = false then ([], 2) else if badLot plan = true then ([], 1) else (exposL st lot plan plan.length, 0)) := by show _ = _; rw [exposedR, ← ht, if_neg (by simpa using h0)]
    clear ht
    subst h0
    cases h1 : ((plan.length : Int) == (st.length : Int)) with
    | false =>
      have HR2 : Hid (exposedR st lot bound held plan = ([], 2)) := by show _ = _; rw [HR.out, if_pos h1]
      clear HR
      go_enter Try.func57, Try.ntmps57
      go_wp2_with (first
        | ((with_reducible refine gate_dst (N := 10) rfl ?_); refine ev_load_row (N := 10) rfl rfl 87 _ rfl w.heap.size rfl (t := 87) (cs := #[.slice A st.length c, .int .i64 lot, .int .i64 bound, .int .i64 held]) b0 Try.underlying87 HI87 ?_)
        | (go_at_call 103; refine hCH.mono ?_; rintro e w1 ⟨rfl, hB1⟩; have b1 := b0.below hB1 b0.lt; have q0 := b1.cell 0 rfl))
      go_ret2
      exact ⟨_, by rw [HR2.out]; rfl, by rw [HR2.out]; exact Kd.R_nil _ _ _ _ _, B0.trans (hB1.mono (by simp))⟩
    | true =>
      cases h2 : badLot plan with
      | true =>
        have HR2 : Hid (exposedR st lot bound held plan = ([], 1)) := by show _ = _; rw [HR.out, if_neg (by rw [h1]; simp), if_pos h2]
        clear HR
        go_enter Try.func57, Try.ntmps57
        go_wp2_with (first
          | ((with_reducible refine gate_dst (N := 10) rfl ?_); refine ev_load_row (N := 10) rfl rfl 87 _ rfl w.heap.size rfl (t := 87) (cs := #[.slice A st.length c, .int .i64 lot, .int .i64 bound, .int .i64 held]) b0 Try.underlying87 HI87 ?_)
          | (go_at_call 103; refine hCH.mono ?_; rintro e w1 ⟨rfl, hB1⟩; have b1 := b0.below hB1 b0.lt; have q0 := b1.cell 0 rfl; have hP1 := Kd.C_below hP (B0.trans (hB1.mono (by simp))))
          | (go_at_call 104; refine (contains104_any _ _ _ _ _ hP1).mono ?_; rw [h2]; rintro e w' ⟨rfl, rfl⟩))
        go_ret2
        exact ⟨_, by rw [HR2.out]; rfl, by rw [HR2.out]; exact Kd.R_nil _ _ _ _ _, B0.trans (hB1.mono (by simp))⟩
      | false =>
        have HR2 : Hid (exposedR st lot bound held plan = (exposL st lot plan plan.length, 0)) := by show _ = _; rw [HR.out, if_neg (by rw [h1]; simp), if_neg (by rw [h2]; simp)]
        clear HR
        have hlen : plan.length = st.length := by have := eq_of_beq h1; omega
        have hlots : Hid (∀ k, k < plan.length → 0 ≤ plan.getD k 0 ∧ plan.getD k 0 ≤ 50) := fun k hk => by
          have h3 := List.any_eq_false.1 h2 plan[k] (List.getElem_mem _)
          rw [List.getD_eq_getElem?_getD, List.getElem?_eq_getElem hk]
          exact inB_true (by simpa using h3)
        have HLEN := Lib.hid hlen
        have hfew := hok.few
        have hpl : plan.length ≤ 20 := by omega
        clear hlen
        go_enter Try.func57, Try.ntmps57
        go_wp2_with (first
          | ((with_reducible refine gate_dst (N := 10) rfl ?_); refine ev_load_row (N := 10) rfl rfl 87 _ rfl w.heap.size rfl (t := 87) (cs := #[.slice A st.length c, .int .i64 lot, .int .i64 bound, .int .i64 held]) b0 Try.underlying87 HI87 ?_)
          | (go_at_call 103; refine hCH.mono ?_; rintro e w1 ⟨rfl, hB1⟩; have b1 := b0.below hB1 b0.lt; have q0 := b1.cell 0 rfl; have hP1 := Kd.C_below hP (B0.trans (hB1.mono (by simp))))
          | (go_at_call 104; refine (contains104_any _ _ _ _ _ hP1).mono ?_; rw [h2]; rintro e w' ⟨rfl, rfl⟩))
        have B1 := B0.trans (hB1.mono (by simp))
        clear hB1 B0 b0 hCH q0 hP1 h1 h2
        go_loopw [7, 27] (fun vt vi wr => ∃ k : Nat, k ≤ plan.length ∧ vi = .int .i64 k ∧ Kd.R k24 24 wr w.heap.size (fun b => b ≠ w.heap.size) vt (exposL st lot plan k) ∧ Blk wr w.heap.size 87 #[.slice A st.length c, .int .i64 lot, .int .i64 bound, .int .i64 held] ∧ Below w.heap.size w wr) (fun _ i _ => plan.length - (intOf i).toNat)
        · exact ⟨0, Nat.zero_le _, rfl, Kd.R_nil _ _ _ _ _, b1, B1⟩
        · clear b1 B1
          obtain ⟨k, hk, rfl, hR, n0, nB⟩ := hrel
          have hz := nB.size
          have hlt0 := n0.lt
          by_cases hlt : k < plan.length
          · obtain ⟨ad, hA, p0⟩ := Kd.at_int (Kd.C_below hP nB) k (by omega) (by omega)
            subst hA
            simp only [Int.toNat_natCast] at p0
            have hl := hlots.out k hlt
            have e0 : rd plan (k : Int) = plan.getD k 0 := by simp [rd]
            rw [e0] at p0
            clear e0
            obtain ⟨n, hn⟩ : ∃ n, n = plan.getD k 0 := ⟨_, rfl⟩
            rw [← hn] at p0 hl
            have HST : Hid (exposL st lot plan (k + 1) = exposL st lot plan k ++ [⟨expo0 st lot k n, expo1 st lot k n⟩]) := by show _ = _; rw [exposL, ← hn]
            clear hn
            have hkd : k < st.length := by have := HLEN.out; omega
            have hCE := fun W h => exposed_any A c st lot bound held k n W (Kd.C_below hC h) hok hkd hl.1 hl.2
            have hel := exposL_len st lot plan k
            have hll : (exposL st lot plan k).length ≤ 20 := by omega
            clear hel
            have hown : some w.heap.size ≠ u7.ownBlock := fun e => (hR.1 w.heap.size e.symm) rfl
            have m0 := n0.cell 0 rfl
            have m1 := n0.cell 1 rfl
            have m2 := n0.cell 2 rfl
            have m3 := n0.cell 3 rfl
            go_wp2_with (first
              | (go_at_call 106; refine (hCE _ nB).mono ?_; rintro e w2 ⟨rfl, hB2⟩; have n1 := n0.below hB2 hlt0; have nB1 := nB.trans (hB2.mono hz); have hR1 := Kd.R_below hR hB2; have hz1 := nB1.size; have hlt1 := n1.lt)
              | ((with_reducible refine gate_builtin (b := .append) (xs := #[.tmp 32, .tmp 37]) rfl ?_); at_builtin; refine Kd.R_append k24 (w0 := w) w.heap.size rfl (.tmp 32) (.tmp 37) 37 24 (.agg #[.int .i64 0, .int .i64 0]) 16 rfl Try.underlying37 info24 rfl (by decide) (by omega) u7 (exposL st lot plan k) ⟨expo0 st lot k n, expo1 st lot k n⟩ [.int .i64 (expo0 st lot k n), .int .i64 (expo1 st lot k n)] (fun b => b ≠ w.heap.size) (fun _ => False) rfl rfl (k24_mkM _ _ _ _) (fun _ hk => hk.elim) ?aF ?aO ?aB ?aS ?aL ?_; (case aF => exact fun b hb => by omega); (case aO => exact hR1); (case aB => exact nB1); (case aS => exact hz1); (case aL => omega); intro v1 w3 ho hb hg hat))
            refine ⟨⟨k + 1, by omega, by push_cast; rfl, by rw [HST.out]; exact ho, n1.grown hg hown, hb⟩, by simp [intOf]; omega⟩
          · obtain rfl : k = plan.length := by omega
            go_wp2
            go_ret2
            exact ⟨_, by rw [HR2.out]; rfl, by rw [HR2.out]; exact Kd.R_mono hR (fun _ _ => trivial), nB⟩
  · have HR : Hid (exposedR st lot bound held plan = ([], t)) := by show _ = _; rw [exposedR, ← ht, if_pos h0]
    clear ht
    go_enter Try.func57, Try.ntmps57
    go_wp2_with (first
      | ((with_reducible refine gate_dst (N := 10) rfl ?_); refine ev_load_row (N := 10) rfl rfl 87 _ rfl w.heap.size rfl (t := 87) (cs := #[.slice A st.length c, .int .i64 lot, .int .i64 bound, .int .i64 held]) b0 Try.underlying87 HI87 ?_)
      | (go_at_call 103; refine hCH.mono ?_; rintro e w1 ⟨rfl, hB1⟩))
    go_ret2
    exact ⟨_, by rw [HR.out]; rfl, by rw [HR.out]; exact Kd.R_nil _ _ _ _ _, B0.trans (hB1.mono (by simp))⟩
end Go.Proofs.Ytkdlbocjgbmbdaa.Print

namespace Go.Proofs.Ytkdlbocjgbmbdaa.Print
open Go.RowKit Go.Shelf Go.Proofs.YtkdlbocjgbmbdaaW.PrintWords
set_option linter.unusedVariables false
attribute [local go_sem] Oper.semAt_some
attribute [local go_sem] wide_fn wide_asked
def intCells (xs : List Int) : Array Value := (xs.map (Value.int .i64)).toArray
theorem intCells_at {xs : List Int} {i : Nat} (h : i < xs.length) : (intCells xs)[i]? = some (.int .i64 (xs.getD i 0)) := by
  simp [intCells, List.getElem?_eq_getElem h, List.getD_eq_getElem?_getD]
theorem intCells_set (xs : List Int) (i : Nat) (b : Int) : (intCells xs).setIfInBounds i (.int .i64 b) = intCells (xs.set i b) := by
  simp [intCells, List.map_set]
def never : Int := 1073741824
def distI (b l : Nat) : Int := max ((b : Int) - l) ((l : Int) - b)
def outB (st : List S24) (lot bound : Int) (d l : Nat) : Bool := decide (expo0 st lot d l < -bound) || decide (bound < expo1 st lot d l)
def costL (st : List S24) (lot bound : Int) (rs : List Int) (d b l : Nat) : Int :=
  if outB st lot bound d l = true then never else min never (distI b l + rs.getD ((d + 1) * 51 + l) 0)
def hedgeV (A : Option Addr) (n c : Nat) (lot bound held : Int) : Array Value := #[.slice A n c, .int .i64 lot, .int .i64 bound, .int .i64 held]
section
variable {W : World} {H n c : Nat} {A : Option Addr} {lot bound held : Int}
theorem hv0 (h : Blk W H 87 (hedgeV A n c lot bound held)) : W.cell? ⟨H, 0, none⟩ = some (.slice A n c) := h.cell 0 rfl
theorem hv1 (h : Blk W H 87 (hedgeV A n c lot bound held)) : W.cell? ⟨H, 1, none⟩ = some (.int .i64 lot) := h.cell 1 rfl
theorem hv2 (h : Blk W H 87 (hedgeV A n c lot bound held)) : W.cell? ⟨H, 2, none⟩ = some (.int .i64 bound) := h.cell 2 rfl
theorem hv3 (h : Blk W H 87 (hedgeV A n c lot bound held)) : W.cell? ⟨H, 3, none⟩ = some (.int .i64 held) := h.cell 3 rfl
end
set_option maxRecDepth 100000 in
set_option maxHeartbeats 8000000 in
theorem cost_any (A : Option Addr) (c : Nat) (st : List S24) (lot bound held : Int) (d b l Hb Rb K cap : Nat) (rs : List Int) (w : World) (hC : Kd.C k24 w A st.length st) (hok : HedgeOk st lot bound held) (hd : d < st.length) (hb : b < 51) (hl : l < 51)
    (hH : Blk w Hb 87 (hedgeV A st.length c lot bound held)) (hR : Blk w Rb 160 #[.slice (some ⟨K, 0, none⟩) (st.length + 1) cap]) (hK : Blk w K 161 (intCells rs)) (hrs : (st.length + 1) * 51 ≤ rs.length) (hv : 0 ≤ rs.getD ((d + 1) * 51 + l) 0 ∧ rs.getD ((d + 1) * 51 + l) 0 ≤ never) :
    Calls Try.prog 109 #[.int .i64 (d : Int), .int .i64 (b : Int), .int .i64 (l : Int), .pointer (some ⟨Hb, 0, none⟩), .pointer (some ⟨Rb, 0, none⟩)] w fun e w' => e = .returned (.int .i64 (costL st lot bound rs d b l)) ∧ Below w.heap.size w w' := by
  have hEX := exposed_any A c st lot bound held d l w hC hok hd (by omega) (by omega)
  have hbd := expo_bound hok hd (l := (l : Int)) (by omega) (by omega)
  have hfew := hok.few
  have hb0 := hok.b0
  have hb1 := hok.b1
  have HO : Hid (outB st lot bound d l = (decide (expo0 st lot d l < -bound) || decide (bound < expo1 st lot d l))) := rfl
  have HCL : Hid (costL st lot bound rs d b l = if outB st lot bound d l = true then never else min never (distI b l + rs.getD ((d + 1) * 51 + l) 0)) := rfl
  generalize expo0 st lot d l = x0 at *
  generalize expo1 st lot d l = x1 at *
  have m0 := hv0 hH
  have m1 := hv1 hH
  have m2 := hv2 hH
  have m3 := hv3 hH
  have HHb := hH.lt
  by_cases h1 : x0 < -bound
  · have HR : Hid (costL st lot bound rs d b l = 1073741824) := by show _ = _; rw [HCL.out, HO.out, if_pos (by simp [h1])]; rfl
    clear HCL HO
    rw [HR.out]
    go_enter Try.func109, Try.ntmps109
    go_wp2_with (go_at_call 106; refine hEX.mono ?_; rintro e w1 ⟨rfl, hB1⟩; have n1 := (hH.below hB1 hH.lt).alloc (.cells #[.int .i64 x0, .int .i64 x1] 24); have q2 := hv2 n1; have hz := hB1.size)
    go_ret
    exact ⟨rfl, below_alloc' hB1 _⟩
  · by_cases h2 : bound < x1
    · have HR : Hid (costL st lot bound rs d b l = 1073741824) := by show _ = _; rw [HCL.out, HO.out, if_pos (by simp [h2])]; rfl
      clear HCL HO
      rw [HR.out]
      go_enter Try.func109, Try.ntmps109
      go_wp2_with (go_at_call 106; refine hEX.mono ?_; rintro e w1 ⟨rfl, hB1⟩; have n1 := (hH.below hB1 hH.lt).alloc (.cells #[.int .i64 x0, .int .i64 x1] 24); have q2 := hv2 n1; have hz := hB1.size)
      go_ret
      exact ⟨rfl, below_alloc' hB1 _⟩
    · have h1' : decide (x0 < -bound) = false := by simpa using h1
      have h2' : decide (bound < x1) = false := by simpa using h2
      obtain ⟨v, hvv⟩ : ∃ v, v = rs.getD ((d + 1) * 51 + l) 0 := ⟨_, rfl⟩
      have HR : Hid (costL st lot bound rs d b l = min 1073741824 (distI b l + v)) := by show _ = _; rw [HCL.out, HO.out, h1', h2', if_neg (by simp), ← hvv]; rfl
      clear HCL HO
      rw [HR.out]
      have hcv := hK.cell ((d + 1) * 51 + l) (intCells_at (by omega))
      rw [← hvv] at hcv hv
      clear hvv
      unfold never at hv
      have hcr := hR.cell 0 rfl
      have hlr : Rb < w.heap.size := hR.lt
      have hlk : K < w.heap.size := hK.lt
      have hdi : 0 ≤ distI b l ∧ distI b l ≤ 50 := by unfold distI; omega
      have hAP := fun W => apart_any (b : Int) (l : Int) W (by omega) (by omega)
      have HDI : Hid (max ((b : Int) - l) ((l : Int) - b) = distI b l) := rfl
      generalize distI b l = q at *
      have hq0 := hdi.1
      have hq1 := hdi.2
      have hv0 := hv.1
      have hv1 := hv.2
      have hw1 : IntKind.i64.wrap ((d : Int) + 1) = (d : Int) + 1 := IntWalk.i64_in _ (by omega)
      have hw2 : ((d : Int) + 1).toNat = d + 1 := by omega
      have hw3 : (0 : Int) ≤ (d : Int) + 1 := by omega
      have hw4 : (d : Int) + 1 < ((st.length + 1 : Nat) : Int) := by omega
      have hw5 : (0 : Int) ≤ (l : Int) := by omega
      have hw6 : (l : Int) < 51 := by omega
      have hw7 : IntKind.i64.wrap (q + v) = q + v := IntWalk.i64_in _ (by omega)
      clear hv hdi
      go_enter Try.func109, Try.ntmps109
      go_wp2_with (go_at_call 106; refine hEX.mono ?_; rintro e w1 ⟨rfl, hB1⟩; have n1 := (hH.below hB1 hH.lt).alloc (.cells #[.int .i64 x0, .int .i64 x1] 24); have q2 := hv2 n1; have hz := hB1.size)
      have hB2 := below_alloc' hB1 (.cells #[.int .i64 x0, .int .i64 x1] 24)
      have r0 := (hR.below hB2 hlr).cell 0 rfl
      have r1 := (hB2.cell (p := ⟨K, (d + 1) * 51 + l, none⟩) hlk).trans hcv
      go_quiet ((go_at_call 110; exact Calls.quiet_of_same ((hAP _).mono fun e w' h => ⟨h.1.trans (by rw [HDI.out]), h.2⟩)))
      go_wp2
      go_ret
      exact ⟨rfl, below_drewN' hB2 _⟩
end Go.Proofs.Ytkdlbocjgbmbdaa.Print

namespace Go.Proofs.Ytkdlbocjgbmbdaa.Print
open Go.RowKit Go.Shelf Go.Proofs.YtkdlbocjgbmbdaaW.PrintWords
set_option linter.unusedVariables false
section
variable (st : List S24) (lot bound : Int)
def costG (d : Nat) (next : Nat → Int) (b l : Nat) : Int := if outB st lot bound d l = true then never else min never (distI b l + next l)
def bestF (d : Nat) (next : Nat → Int) (b : Nat) : Nat → Int
  | 0 => never
  | k + 1 => min (bestF d next b k) (costG st lot bound d next b k)
def restF : Nat → Nat → Int
  | 0 => fun _ => 0
  | m + 1 => fun b => bestF st lot bound (st.length - (m + 1)) (restF m) b 51
/-- How many lots a plan takes on a day. -/
def lotsF (d b : Nat) : Nat := (firstI (fun l => decide (costG st lot bound d (restF st lot bound (st.length - (d + 1))) b l = restF st lot bound (st.length - d) b)) 51).toNat
def planK (held : Nat) : Nat → List Int × Nat
  | 0 => ([], held)
  | d + 1 => ((planK held d).1 ++ [(lotsF st lot bound d (planK held d).2 : Int)], lotsF st lot bound d (planK held d).2)
def hedgedR (held : Int) : List Int × Int × Int :=
  if hedgeE st lot bound held ≠ 0 then ([], 0, hedgeE st lot bound held) else if never ≤ restF st lot bound st.length held.toNat then ([], 0, 13) else ((planK st lot bound held.toNat st.length).1, restF st lot bound st.length held.toNat, 0)
end
section
variable {st : List S24} {lot bound : Int}
theorem distI_nonneg (b l : Nat) : 0 ≤ distI b l := by unfold distI; omega
theorem costG_bounds {d : Nat} {next : Nat → Int} (h : ∀ l, 0 ≤ next l) (b l : Nat) : 0 ≤ costG st lot bound d next b l ∧ costG st lot bound d next b l ≤ never := by
  have h1 := h l
  have h2 := distI_nonneg b l
  unfold costG never
  split <;> omega
theorem bestF_bounds {d : Nat} {next : Nat → Int} (h : ∀ l, 0 ≤ next l) (b : Nat) : ∀ k, 0 ≤ bestF st lot bound d next b k ∧ bestF st lot bound d next b k ≤ never
  | 0 => by simp [bestF, never]
  | k + 1 => by
    have h1 := bestF_bounds (d := d) h b k
    have h2 := costG_bounds (st := st) (lot := lot) (bound := bound) (d := d) h b k
    simp only [bestF]
    omega
theorem restF_bounds : ∀ m b, 0 ≤ restF st lot bound m b ∧ restF st lot bound m b ≤ never
  | 0, b => by simp [restF, never]
  | m + 1, b => bestF_bounds (fun l => (restF_bounds m l).1) b 51
theorem bestF_hit {d : Nat} {next : Nat → Int} {b : Nat} : ∀ k, bestF st lot bound d next b k < never → ∃ l, l < k ∧ costG st lot bound d next b l = bestF st lot bound d next b k
  | 0, h => by simp [bestF] at h
  | k + 1, h => by
    simp only [bestF] at h ⊢
    by_cases hc : costG st lot bound d next b k ≤ bestF st lot bound d next b k
    · exact ⟨k, by omega, by omega⟩
    · obtain ⟨l, hl, he⟩ := bestF_hit k (show bestF st lot bound d next b k < never by omega)
      exact ⟨l, by omega, by omega⟩
/-- A plan that is begun below the bound goes on below it. -/
theorem lotsF_spec {d b : Nat} (hd : d < st.length) (h : restF st lot bound (st.length - d) b < never) :
    lotsF st lot bound d b < 51 ∧ costG st lot bound d (restF st lot bound (st.length - (d + 1))) b (lotsF st lot bound d b) = restF st lot bound (st.length - d) b ∧
      (∀ j, j < lotsF st lot bound d b → costG st lot bound d (restF st lot bound (st.length - (d + 1))) b j ≠ restF st lot bound (st.length - d) b) ∧ restF st lot bound (st.length - (d + 1)) (lotsF st lot bound d b) < never := by
  obtain ⟨m, hm⟩ : ∃ m, st.length - d = m + 1 := ⟨st.length - d - 1, by omega⟩
  have hm' : st.length - (d + 1) = m := by omega
  have hd' : st.length - (m + 1) = d := by omega
  have hr : restF st lot bound (m + 1) b = bestF st lot bound d (restF st lot bound m) b 51 := by simp only [restF]; rw [hd']
  unfold lotsF
  rw [hm] at h ⊢
  rw [hm']
  obtain ⟨l, hl, he⟩ := bestF_hit (b := b) 51 (by rw [← hr]; exact h)
  rw [← hr] at he
  -- the first one
  have hge : 0 ≤ firstI (fun l => decide (costG st lot bound d (restF st lot bound m) b l = restF st lot bound (m + 1) b)) 51 := (firstI_ge _ _).2 ⟨l, hl, by simpa using he⟩
  obtain ⟨k, hk51, hk, hno⟩ : ∃ k, k < 51 ∧ costG st lot bound d (restF st lot bound m) b k = restF st lot bound (m + 1) b ∧ ∀ j, j < k → ¬ costG st lot bound d (restF st lot bound m) b j = restF st lot bound (m + 1) b := by
    clear hge
    induction l using Nat.strongRecOn with
    | _ l ih =>
      by_cases hex : ∃ j, j < l ∧ costG st lot bound d (restF st lot bound m) b j = restF st lot bound (m + 1) b
      · obtain ⟨j, hj, hje⟩ := hex
        exact ih j hj (by omega) hje
      · exact ⟨l, hl, he, fun j hj h2 => hex ⟨j, hj, h2⟩⟩
  have hf : firstI (fun l => decide (costG st lot bound d (restF st lot bound m) b l = restF st lot bound (m + 1) b)) 51 = k := firstI_yes _ k (by simpa using hk) (fun j hj => by simpa using hno j hj) 51 hk51
  rw [hf]
  simp only [Int.toNat_natCast]
  refine ⟨hk51, hk, hno, ?_⟩
  have hc : costG st lot bound d (restF st lot bound m) b k < never := by rw [hk]; exact h
  have h2 := distI_nonneg b k
  have h3 := restF_bounds (st := st) (lot := lot) (bound := bound) m k
  unfold costG at hc
  split at hc
  · omega
  · omega
theorem planK_len (held : Nat) : ∀ d, (planK st lot bound held d).1.length = d
  | 0 => rfl
  | d + 1 => by simp [planK, planK_len held d]
theorem planK_ok {held : Nat} (hh : held < 51) (h : restF st lot bound st.length held < never) : ∀ d, d ≤ st.length → (planK st lot bound held d).2 < 51 ∧ restF st lot bound (st.length - d) (planK st lot bound held d).2 < never
  | 0, _ => ⟨hh, h⟩
  | d + 1, hd => by
    have h1 := planK_ok hh h d (by omega)
    have h2 := lotsF_spec (by omega) h1.2
    simp only [planK]
    exact ⟨h2.1, h2.2.2.2⟩
/-- What the rows of the table hold. -/
def RowsDone (st : List S24) (lot bound : Int) (rs : List Int) (m : Nat) : Prop := ∀ d b, st.length - m ≤ d → d ≤ st.length → b < 51 → rs.getD (d * 51 + b) 0 = restF st lot bound (st.length - d) b
theorem costL_done {rs : List Int} {m : Nat} (h : RowsDone st lot bound rs m) {d b l : Nat} (hd : st.length - m ≤ d + 1) (hd' : d < st.length) (hl : l < 51) : costL st lot bound rs d b l = costG st lot bound d (restF st lot bound (st.length - (d + 1))) b l := by
  have h2 : rs.getD ((d + 1) * 51 + l) 0 = restF st lot bound (st.length - (d + 1)) l := h (d + 1) l hd (by omega) hl
  unfold costL costG
  rw [h2]
end
def z161 : Value := .agg (Array.replicate 51 (.int .i64 0))
theorem info161' : (Try.prog.info? 161).map (fun i => (i.zero, i.size, i.bytes)) = some (some z161, 51, 408) := by kernel_rfl
theorem info161 : ∃ i, Try.prog.info? 161 = some i ∧ i.zero = some z161 ∧ i.size = 51 ∧ i.bytes = 408 := by
  have h := info161'
  cases hi : Try.prog.info? 161 with
  | none => rw [hi] at h; simp at h
  | some i =>
    rw [hi] at h
    simp only [Option.map_some, Option.some.injEq, Prod.mk.injEq] at h
    exact ⟨i, rfl, h⟩
theorem made161 (n : Nat) : madeCells z161.cells (n * 51) = intCells (List.replicate (n * 51) 0) := by
  have hz : z161.cells = Array.replicate 51 (.int .i64 0) := rfl
  rw [hz]
  apply Array.ext
  · simp [madeCells, intCells]
  · intro i h1 h2
    simp only [madeCells, intCells, List.map_replicate, Array.getElem_map, Array.getElem_range, Array.size_replicate, List.getElem_toArray, List.getElem_replicate]
    have h3 : i % 51 < 51 := Nat.mod_lt _ (by omega)
    rw [getElem!_pos _ _ (by simpa using h3)]
    simp
theorem run_make160 (n : Nat) (hn : n ≤ 21) (W : World) :
    (Instr.makeSlice 160 (.int .i64 (n : Int)) (.int .i64 (n : Int))).run Try.prog W = .ok (.slice (some ⟨W.heap.size, 0, none⟩) n n) (W.alloc (.cells (intCells (List.replicate (n * 51) 0)) 161)) := by
  obtain ⟨i, h1, h2, h3, h4⟩ := info161
  have := run_make (P := Try.prog) W 160 161 i z161 Try.underlying160 h1 h2 .i64 .i64 n n (by omega) (by omega) (by rw [h4]; omega) (by omega)
  rw [h3] at this
  simp only [Int.toNat_natCast] at this
  rw [made161] at this
  exact this
end Go.Proofs.Ytkdlbocjgbmbdaa.Print

namespace Go.Proofs.Ytkdlbocjgbmbdaa.Print
open Go.RowKit Go.Shelf Go.Proofs.YtkdlbocjgbmbdaaW.PrintWords
set_option linter.unusedVariables false
attribute [local go_sem] Oper.semAt_some
attribute [local go_sem] wide_fn wide_asked
theorem rows0 (st : List S24) (lot bound : Int) (n : Nat) : RowsDone st lot bound (List.replicate ((st.length + 1) * 51) (0 : Int)) 0 := fun d b h1 h2 hb => by
  obtain rfl : d = st.length := by omega
  rw [Nat.sub_self, restF, List.getD_eq_getElem?_getD, List.getElem?_replicate]
  split <;> rfl
theorem own_kept {w w' : World} {base : Nat} {e : TypeId} {size n : Nat} {v : Value} {xs : List Value} (h : w.ownsRow base e size v n xs) (hB : Below w.heap.size w w') : w'.ownsRow base e size v n xs :=
  h.kept (row := none) ⟨hB.os, hB.tape, hB.output, hB.size, fun k hk _ => hB.block k hk⟩ (by cases v.ownBlock <;> simp)
theorem own_low {w : World} {base base' : Nat} {e : TypeId} {size n : Nat} {v : Value} {xs : List Value} (h : w.ownsRow base e size v n xs) (hb : base' ≤ base) : w.ownsRow base' e size v n xs := by
  refine ⟨h.1, ?_⟩
  rcases h.2 with h | ⟨g, cap, cur, h1, h2, h3⟩
  · exact .inl h
  · exact .inr ⟨g, cap, cur, h1, by omega, h3⟩
theorem own_form {w : World} {base : Nat} {e : TypeId} {size n : Nat} {v : Value} {xs : List Value} (h : w.ownsRow base e size v n xs) : ∃ A c, v = .slice A n c ∧ n ≤ c ∧ (A = none → n = 0) ∧ ∀ b, A = some b → ∃ g, b = ⟨g, 0, none⟩ := by
  rcases h.2 with ⟨rfl, rfl⟩ | ⟨g, cap, cur, rfl, h2, h3, h4, _⟩
  · exact ⟨none, 0, rfl, Nat.le_refl _, fun _ => rfl, fun b hb => by cases hb⟩
  · refine ⟨_, cap, rfl, h4, fun hb => ?_, fun b hb => ?_⟩
    · cases hb
    · injection hb with hb
      exact ⟨g, hb.symm⟩
set_option maxRecDepth 100000 in
theorem slice_clip (A : Option Addr) (d c : Nat) (h : d ≤ c) (W : World) : (Instr.slice 27 (.slice A d c) none (some (.int .i64 (d : Int))) (some (.int .i64 (d : Int)))).run Try.prog W = .ok (.slice A d d) W := by
  have h1 := run_slice_hm (P := Try.prog) W 27 A d c Try.underlying27 .i64 .i64 (d : Int) (d : Int) (by omega) (by omega) (by omega)
  rw [h1]
  have h2 : (sizeOf (Try.prog.elem 27)).run Try.prog W = .ok 1 W := Try.sizeOf3 W
  rw [h2]
  have h3 : A.map (·.add 0) = A := by
    cases A with
    | none => rfl
    | some a => cases a; rfl
  simp only [Result.andThen, sliced, Int.toNat_natCast, Nat.zero_mul, Nat.sub_zero, h3, ite_self]
theorem info3' : ∃ i, Try.prog.info? 3 = some i ∧ i.zero = some (.int .i64 0) ∧ i.size = 1 ∧ i.bytes = 8 := by
  have h := info3
  cases hi : Try.prog.info? 3 with
  | none => rw [hi] at h; simp at h
  | some i =>
    rw [hi] at h
    simp only [Option.map_some, Option.some.injEq, Prod.mk.injEq] at h
    exact ⟨i, rfl, h⟩
theorem plan_cells {w : World} {base n : Nat} {A : Option Addr} {c : Nat} {xs : List Value} (h : w.ownsRow base 3 1 (.slice A n c) n xs) (hA : ∀ b, A = some b → ∃ g, b = ⟨g, 0, none⟩) : ∀ b, A = some b → ∀ j u, xs[j]? = some u → w.cell? (b.add j) = some u := by
  intro b hb j u hu
  obtain ⟨g, rfl⟩ := hA b hb
  exact h.cells (g := g) (by rw [hb]; rfl) j u hu
theorem new_cell (w : World) (v : Value) : ∀ j u, [v][j]? = some u → (w.alloc (.cells #[v] 3)).cell? ((⟨w.heap.size, 0, none⟩ : Addr).add j) = some u := by
  intro j u hu
  rcases j with _ | j
  · simp at hu
    subst hu
    rw [addr0]
    exact (blk_new w 3 #[v]).cell 0 rfl
  · simp at hu
structure HW (w : World) (A : Option Addr) (c : Nat) (st : List S24) (lot bound held : Int) (K : Nat) (rs : List Int) (W : World) : Prop where
  len : rs.length = (st.length + 1) * 51
  h : Blk W w.heap.size 87 (hedgeV A st.length c lot bound held)
  r : Blk W (K + 1) 160 #[.slice (some ⟨K, 0, none⟩) (st.length + 1) (st.length + 1)]
  k : Blk W K 161 (intCells rs)
  b : Below w.heap.size w W
  lt : w.heap.size < K
section
variable {w : World} {A : Option Addr} {c : Nat} {st : List S24} {lot bound held : Int} {K : Nat} {rs : List Int} {W W' : World}
theorem HW.below (h : HW w A c st lot bound held K rs W) (hb : Below W.heap.size W W') : HW w A c st lot bound held K rs W' :=
  ⟨h.len, h.h.below hb h.h.lt, h.r.below hb h.r.lt, h.k.below hb h.k.lt, h.b.trans (hb.mono h.b.size), h.lt⟩
theorem HW.set (h : HW w A c st lot bound held K rs W) (i : Nat) (v : Int) : HW w A c st lot bound held K (rs.set i v) (W.setCell ⟨K, i, none⟩ (.int .i64 v)) :=
  ⟨by rw [List.length_set]; exact h.len, h.h.far (by have := h.lt; simp; omega) _, h.r.far (by simp) _, by rw [← intCells_set]; exact h.k.set i _, h.b.setCell (p := ⟨K, i, none⟩) (by have := h.lt; dsimp only; omega) _, h.lt⟩
theorem HW.grown (h : HW w A c st lot bound held K rs W) {row : Option Nat} (hg : W.grownBy W' row) (h1 : some w.heap.size ≠ row) (h2 : some (K + 1) ≠ row) (h3 : some K ≠ row) (hb : Below w.heap.size w W') : HW w A c st lot bound held K rs W' :=
  ⟨h.len, h.h.grown hg h1, h.r.grown hg h2, h.k.grown hg h3, hb, h.lt⟩
theorem HW.cost (h : HW w A c st lot bound held K rs W) (hC : Kd.C k24 w A st.length st) (hok : HedgeOk st lot bound held) {m : Nat} (hd : RowsDone st lot bound rs m) {d b l : Nat} (hdm : st.length - m ≤ d + 1) (hdn : d < st.length) (hb : b < 51) (hl : l < 51) :
    Calls Try.prog 109 #[.int .i64 (d : Int), .int .i64 (b : Int), .int .i64 (l : Int), .pointer (some ⟨w.heap.size, 0, none⟩), .pointer (some ⟨K + 1, 0, none⟩)] W fun e w' => e = .returned (.int .i64 (costG st lot bound d (restF st lot bound (st.length - (d + 1))) b l)) ∧ Below W.heap.size W w' := by
  have h1 := cost_any A c st lot bound held d b l w.heap.size (K + 1) K (st.length + 1) rs W (Kd.C_below hC h.b) hok hdn hb hl h.h h.r h.k (by rw [h.len]; exact Nat.le_refl _) (by rw [show rs.getD ((d + 1) * 51 + l) 0 = restF st lot bound (st.length - (d + 1)) l from hd (d + 1) l hdm (by omega) hl]; exact restF_bounds _ _)
  rw [costL_done hd hdm hdn hl] at h1
  exact h1
/-- One entry more of a row. -/
theorem rowsDone_set {m d b : Nat} {v : Int} (h : RowsDone st lot bound rs m) (hd : d + 1 ≤ st.length - m) (hb : b < 51) : RowsDone st lot bound (rs.set (d * 51 + b) v) m := fun d' b' h1 h2 h3 => by
  rw [← h d' b' h1 h2 h3, List.getD_eq_getElem?_getD, List.getD_eq_getElem?_getD, List.getElem?_set_ne (by omega)]
end
set_option maxRecDepth 100000 in
set_option maxHeartbeats 16000000 in
theorem Hedged_any (A : Option Addr) (c : Nat) (st : List S24) (lot bound held : Int) (w : World) (hC : Kd.C k24 w A st.length st) :
    Calls Try.prog 59 #[.agg #[.slice A st.length c, .int .i64 lot, .int .i64 bound, .int .i64 held]] w fun e w' => ∃ v0_ : Value, e = .returned (.tuple #[v0_, .int .i64 (hedgedR st lot bound held).2.1, .int .i64 (hedgedR st lot bound held).2.2]) ∧ Kd.R (Kd.int .i64) 3 w' w.heap.size (fun _ => True) v0_ (hedgedR st lot bound held).1 ∧ Below w.heap.size w w' := by
  have hmf : ∀ (fn : Fn) (first cap : Array Value) (w : World), (Instr.makeFunc fn first cap).run Try.prog w = .ok (.func fn first cap) w := fun _ _ _ _ => rfl
  obtain ⟨t, ht⟩ : ∃ t, t = hedgeE st lot bound held := ⟨_, rfl⟩
  have HT := Lib.hid ht
  have b0 : Blk (w.alloc (.cells #[.slice A st.length c, .int .i64 lot, .int .i64 bound, .int .i64 held] 87)) w.heap.size 87 (hedgeV A st.length c lot bound held) := blk_new w 87 _
  have B0 : Below w.heap.size w (w.alloc (.cells #[.slice A st.length c, .int .i64 lot, .int .i64 bound, .int .i64 held] 87)) := below_alloc (Below.refl _ _) _
  have hCH := checkHedge_any A c st lot bound held _ (Kd.C_below hC B0)
  rw [← ht] at hCH
  have m0 := hv0 b0
  have m1 := hv1 b0
  have m2 := hv2 b0
  have m3 := hv3 b0
  by_cases h0 : t = 0
  · have hok : HedgeOk st lot bound held := hedgeE_ok (by rw [← ht]; exact h0)
    have HR : Hid (hedgedR st lot bound held = if never ≤ restF st lot bound st.length held.toNat then ([], 0, 13) else ((planK st lot bound held.toNat st.length).1, restF st lot bound st.length held.toNat, 0)) := by show _ = _; rw [hedgedR, ← ht, if_neg (by simpa using h0)]
    clear ht
    subst h0
    have hfew := hok.few
    have hne := hok.ne
    have hmk : ∀ W : World, (Instr.makeSlice 160 (.int .i64 ((st.length : Int) + 1)) (.int .i64 ((st.length : Int) + 1))).run Try.prog W = .ok (.slice (some ⟨W.heap.size, 0, none⟩) (st.length + 1) (st.length + 1)) (W.alloc (.cells (intCells (List.replicate ((st.length + 1) * 51) (0 : Int))) 161)) := fun W => by
      have h := run_make160 (st.length + 1) (by omega) W
      rwa [show ((st.length + 1 : Nat) : Int) = (st.length : Int) + 1 from by omega] at h
    go_enter Try.func59, Try.ntmps59
    go_wp2_with (go_at_call 103; refine hCH.mono ?_; rintro e w1 ⟨rfl, hB1⟩; have b1 := b0.below hB1 b0.lt; have q0 := hv0 b1; have q1 := fun o1 o2 => hv0 ((b1.alloc o1).alloc o2))
    have HW0 : HW w A c st lot bound held w1.heap.size (List.replicate ((st.length + 1) * 51) (0 : Int)) ((w1.alloc (.cells (intCells (List.replicate ((st.length + 1) * 51) (0 : Int))) 161)).alloc (.cells #[.slice (some ⟨w1.heap.size, 0, none⟩) (st.length + 1) (st.length + 1)] 160)) :=
      ⟨by simp, (b1.alloc _).alloc _, blk_new' (by simp), (blk_new w1 161 _).alloc _, below_alloc' (below_alloc' (B0.trans (hB1.mono (by simp))) _) _, by have := hB1.size; simp at this; omega⟩
    have HD0 := rows0 st lot bound 0
    generalize ((w1.alloc (.cells (intCells (List.replicate ((st.length + 1) * 51) (0 : Int))) 161)).alloc (.cells #[.slice (some ⟨w1.heap.size, 0, none⟩) (st.length + 1) (st.length + 1)] 160)) = W0 at *
    generalize List.replicate ((st.length + 1) * 51) (0 : Int) = rs0 at *
    clear hCH b1 q0 q1 hB1 b0 B0 m0 m1 m2 m3 hmk
    generalize w1.heap.size = K at *
    go_loopw [8] (fun vd wr => ∃ (m : Nat) (rs : List Int), m ≤ st.length ∧ vd = .int .i64 ((st.length : Int) - 1 - m) ∧ HW w A c st lot bound held K rs wr ∧ Hid (RowsDone st lot bound rs m)) (fun vd _ => (intOf vd + 1).toNat)
    · exact ⟨0, rs0, Nat.zero_le _, by simp, HW0, HD0⟩
    · clear HW0 HD0
      obtain ⟨m, rs, hm, rfl, H, HD⟩ := hrel
      by_cases hlt : m < st.length
      · obtain ⟨d, hd⟩ : ∃ d : Nat, (st.length : Int) - 1 - m = (d : Int) := ⟨st.length - 1 - m, by omega⟩
        rw [hd]
        have hdn : d < st.length := by omega
        have hdm : st.length - m = d + 1 := by omega
        have hz : (0 : Int) ≤ (d : Int) := by omega
        have hdm' : st.length - d = m + 1 := by omega
        have hdm'' : st.length - (m + 1) = d := by omega
        have hdm3 : st.length - (d + 1) = m := by omega
        go_wp2
        go_loopw [35] (fun vb wr => ∃ (b : Nat) (rs : List Int), b ≤ 51 ∧ vb = .int .i64 b ∧ HW w A c st lot bound held K rs wr ∧ Hid (RowsDone st lot bound rs m) ∧ Hid (∀ j, j < b → rs.getD (d * 51 + j) 0 = restF st lot bound (st.length - d) j)) (fun vb _ => 51 - (intOf vb).toNat)
        · exact ⟨0, rs, by omega, rfl, H, HD, fun j hj => absurd hj (by omega)⟩
        · clear H HD
          obtain ⟨b, rs, hb, rfl, H, HD, HJ⟩ := hrel
          by_cases hb51 : b < 51
          · have hzb : (b : Int) < 51 := by omega
            go_wp2
            go_loopw [10, 38] (fun vx vl wr => ∃ (l : Nat), l ≤ 51 ∧ vl = .int .i64 l ∧ vx = .int .i64 (bestF st lot bound d (restF st lot bound (st.length - (d + 1))) b l) ∧ HW w A c st lot bound held K rs wr) (fun _ vl _ => 51 - (intOf vl).toNat)
            · exact ⟨0, by omega, rfl, rfl, H⟩
            · clear H
              obtain ⟨l, hl, rfl, rfl, H⟩ := hrel
              by_cases hl51 : l < 51
              · have hzl : (l : Int) < 51 := by omega
                have hCO := H.cost hC hok HD.out (by omega) hdn hb51 hl51
                have HB : Hid (bestF st lot bound d (restF st lot bound (st.length - (d + 1))) b (l + 1) = min (bestF st lot bound d (restF st lot bound (st.length - (d + 1))) b l) (costG st lot bound d (restF st lot bound (st.length - (d + 1))) b l)) := rfl
                generalize bestF st lot bound d (restF st lot bound (st.length - (d + 1))) b l = x at *
                generalize costG st lot bound d (restF st lot bound (st.length - (d + 1))) b l = y at *
                go_wp2_with (go_at_call 109; refine hCO.mono ?_; rintro e w2 ⟨rfl, hB2⟩)
                exact ⟨⟨l + 1, by omega, by push_cast; rfl, by rw [HB.out], H.below hB2⟩, by simp [intOf]; omega⟩
              · obtain rfl : l = 51 := by omega
                have HX : Hid (bestF st lot bound d (restF st lot bound (st.length - (d + 1))) b 51 = restF st lot bound (st.length - d) b) := by
                  show _ = _
                  rw [hdm', restF, hdm'', hdm3]
                generalize bestF st lot bound d (restF st lot bound (st.length - (d + 1))) b 51 = x at *
                have hidx : d * 51 + b < rs.length := by rw [H.len]; omega
                have q0 := H.r.cell 0 rfl
                have q1 := H.k.cell (d * 51 + b) (intCells_at hidx)
                have q2 := H.k.frozen (d * 51 + b)
                have hw1 : (d : Int) < ((st.length + 1 : Nat) : Int) := by omega
                go_wp2
                refine ⟨⟨b + 1, _, by omega, by push_cast; rfl, H.set (d * 51 + b) x, rowsDone_set HD.out (by omega) hb51, fun j hj => ?_⟩, by simp [intOf]; omega⟩
                rcases Nat.lt_or_ge j b with h | h
                · rw [← HJ.out j h, List.getD_eq_getElem?_getD, List.getD_eq_getElem?_getD, List.getElem?_set_ne (by omega)]
                · obtain rfl : j = b := by omega
                  rw [List.getD_eq_getElem?_getD, List.getElem?_set_self hidx, ← HX.out]; rfl
          · obtain rfl : b = 51 := by omega
            go_wp2
            refine ⟨⟨m + 1, rs, by omega, ?_, H, fun d' b' h1 h2 h3 => ?_⟩, by first | (simp [intOf]; done) | (simp [intOf]; omega)⟩
            · rw [show (st.length : Int) - 1 - ((m + 1 : Nat) : Int) = (d : Int) - 1 by omega]
            · rcases Nat.lt_or_ge d d' with h | h
              · exact HD.out d' b' (by omega) h2 h3
              · obtain rfl : d = d' := by omega
                exact HJ.out b' h3
      · obtain rfl : m = st.length := by omega
        rw [show (st.length : Int) - 1 - (st.length : Int) = -1 by omega]
        go_wp2
        have HD0 : Hid (RowsDone st lot bound rs st.length) := HD
        obtain ⟨h, rfl⟩ : ∃ h : Nat, held = (h : Int) := ⟨held.toNat, by have := hok.h0; omega⟩
        have hh51 : h < 51 := by have := hok.h1; omega
        have HV : Hid (rs.getD (0 * 51 + h) 0 = restF st lot bound st.length h) := HD.out 0 h (by omega) (by omega) hh51
        have q0 := H.r.cell 0 rfl
        have q1 := hv3 H.h
        have q2 := H.k.cell (0 * 51 + h) (intCells_at (by rw [H.len]; omega))
        rw [HV.out, Nat.zero_mul, Nat.zero_add] at q2
        have hbd := restF_bounds (st := st) (lot := lot) (bound := bound) st.length h
        have HRT : Hid (hedgedR st lot bound h = if never ≤ restF st lot bound st.length h then ([], 0, 13) else ((planK st lot bound h st.length).1, restF st lot bound st.length h, 0)) := by
          show _ = _; rw [HR.out]; simp only [Int.toNat_natCast]
        clear HR HV
        have hz0 : (0 : Int) < ((st.length + 1 : Nat) : Int) := by omega
        have hz1 : (h : Int) < 51 := by omega
        obtain ⟨tr, htr⟩ : ∃ tr, tr = restF st lot bound st.length h := ⟨_, rfl⟩
        have HTR := Lib.hid htr
        rw [← htr] at q2 hbd HRT
        clear htr
        unfold never at hbd
        go_quiet (fail)
        have H2 : HW w A c st lot bound h K rs (wr.drewN nq) := H.below (below_drewN' (Below.refl _ _) nq)
        clear H q0 q1 q2
        have q5 := hv3 H2.h
        have q6 := hv0 H2.h
        by_cases hnv : never ≤ tr
        · have HR2 : Hid (hedgedR st lot bound h = ([], 0, 13)) := by show _ = _; rw [HRT.out, if_pos hnv]
          unfold never at hnv
          clear HRT
          go_wp2
          go_ret3
          exact ⟨_, by rw [HR2.out]; rfl, by rw [HR2.out]; exact Kd.R_nil _ _ _ _ _, H2.b⟩
        · have HR2 : Hid (hedgedR st lot bound h = ((planK st lot bound h st.length).1, tr, 0)) := by show _ = _; rw [HRT.out, if_neg hnv]
          have HLT : Hid (restF st lot bound st.length h < never) := by show _ < _; rw [← HTR.out]; omega
          have hnv' : ¬ (1073741824 : Int) ≤ tr := hnv
          clear HRT hnv
          go_wp2
          have P0 : (wr.drewN nq).ownsRow w.heap.size 3 1 (.slice none 0 0) 0 (encs (Value.int .i64) (planK st lot bound h 0).1) := World.ownsRow_nil _ _ _ _
          generalize wr.drewN nq = W1 at *
          clear q5 q6
          go_loopw [2, 12, 69] (fun vp vb vd wr => ∃ (d : Nat), d ≤ st.length ∧ vd = .int .i64 d ∧ vb = .int .i64 ((planK st lot bound h d).2 : Int) ∧ wr.ownsRow w.heap.size 3 1 vp d (encs (Value.int .i64) (planK st lot bound h d).1) ∧ (∀ k, vp.ownBlock = some k → k ≠ w.heap.size ∧ k ≠ K ∧ k ≠ K + 1) ∧ HW w A c st lot bound h K rs wr) (fun _ _ vd _ => st.length - (intOf vd).toNat)
          · exact ⟨0, by omega, rfl, rfl, P0, fun k hk => by simp [Value.ownBlock] at hk, H2⟩
          · clear P0 H2
            obtain ⟨d, hd, rfl, rfl, HP, HO, H⟩ := hrel
            by_cases hdn : d < st.length
            · have hpk := planK_ok hh51 HLT.out d hd
              have hls := lotsF_spec hdn hpk.2
              have HST : Hid (planK st lot bound h (d + 1) = ((planK st lot bound h d).1 ++ [(lotsF st lot bound d (planK st lot bound h d).2 : Int)], lotsF st lot bound d (planK st lot bound h d).2)) := rfl
              have HV : Hid (rs.getD (d * 51 + (planK st lot bound h d).2) 0 = restF st lot bound (st.length - d) (planK st lot bound h d).2) := HD0.out d _ (by omega) hd hpk.1
              have HN : Hid ((planK st lot bound h d).1.length = d) := planK_len h d
              generalize (planK st lot bound h d).1 = ps at *
              generalize (planK st lot bound h d).2 = b at *
              have hb51 := hpk.1
              have HC := Lib.hid hls.2.1
              have HNO := Lib.hid hls.2.2.1
              have hl51 := hls.1
              clear hpk hls
              generalize lotsF st lot bound d b = L at *
              have q0 := H.r.cell 0 rfl
              have q1 := H.k.cell (d * 51 + b) (intCells_at (by rw [H.len]; omega))
              rw [HV.out] at q1
              obtain ⟨due, hdue⟩ : ∃ due, due = restF st lot bound (st.length - d) b := ⟨_, rfl⟩
              rw [← hdue] at q1 HC HNO
              clear hdue HV
              have hw1 : (d : Int) < ((st.length + 1 : Nat) : Int) := by omega
              have hw2 : (b : Int) < 51 := by omega
              obtain ⟨A2, c2, hu2, hdc, hA0, hA1⟩ := own_form HP
              subst hu2
              have hsl := fun W => slice_clip A2 d c2 hdc W
              have HA0 := Lib.hid hA0
              have HA1 := Lib.hid hA1
              have HOO := Lib.hid HO
              clear hdc hA0 hA1 HO
              go_wp2
              go_loopw [15] (fun vl wr => ∃ (l : Nat), l ≤ L ∧ vl = .int .i64 l ∧ wr.ownsRow w.heap.size 3 1 (.slice A2 d c2) d (encs (Value.int .i64) ps) ∧ HW w A c st lot bound h K rs wr) (fun vl _ => L - (intOf vl).toNat)
              · exact ⟨0, by omega, rfl, HP, H⟩
              · clear HP H q0 q1
                obtain ⟨l, hl, rfl, HP, H⟩ := hrel
                have hCO := H.cost (d := d) (b := b) (l := l) hC hok HD0.out (by omega) hdn hb51 (by omega)
                rcases Nat.lt_or_ge l L with hlt | hge
                · have hne := HNO.out l hlt
                  generalize costG st lot bound d (restF st lot bound (st.length - (d + 1))) b l = y at *
                  have e1 : (y == due) = false := by simpa using hne
                  have e2 : (y != due) = true := by simpa using hne
                  clear hne
                  go_wp2_with (go_at_call 109; refine hCO.mono ?_; rintro e w2 ⟨rfl, hB2⟩)
                  exact ⟨⟨l + 1, by omega, by push_cast; rfl, own_kept HP hB2, H.below hB2⟩, by simp [intOf]; omega⟩
                · obtain rfl : l = L := by omega
                  rw [HC.out] at hCO
                  have e1 : (due == due) = true := by simp
                  have e2 : (due != due) = false := by simp
                  obtain ⟨i3, j1, j2, j3, j4⟩ := info3'
                  have hol : (encs (Value.int .i64) ps).length = d := by rw [encs_length]; exact HN.out
                  go_wp2_with (first
                    | (go_at_call 109; refine hCO.mono ?_; rintro e w2 ⟨rfl, hB2⟩; have HP2 := own_kept (own_kept HP hB2) (below_alloc (Below.refl _ _) (.cells #[.int .i64 (l : Int)] 3)); have H2 := (H.below hB2).below (below_alloc (Below.refl _ _) (.cells #[.int .i64 (l : Int)] 3)))
                    | ((with_reducible refine gate_builtin (b := .append) (xs := #[.tmp 90, .tmp 92]) rfl ?_); at_builtin; refine wpList_append_grows _ rfl (.tmp 90) (.tmp 92) 27 rfl 3 i3 (.int .i64 0) 1 8 Try.underlying27 j1 j2 j3 j4 rfl (by omega) A2 d d (encs (Value.int .i64) ps) rfl ?hnone ?hlo ?holds ⟨w2.heap.size, 0, none⟩ 1 1 [.int .i64 (l : Int)] rfl rfl ?hc ?h1c ?hfull ?hb1 ?hb2 ?_; (case hnone => exact fun h => ⟨HA0.out h, HA0.out h⟩); (case hlo => omega); (case holds => exact plan_cells HP2 HA1.out); (case hc => exact new_cell w2 _); (case h1c => exact fun u hu => by cases hu with | head => rfl | tail _ h => cases h); (case hfull => omega); (case hb1 => unfold maxLen; omega); (case hb2 => omega); intro v3 w3 ho3 hg3))
                  have hz3 := H2.r.lt
                  have hz4 := H2.b.size
                  refine ⟨⟨d + 1, by omega, by push_cast; rfl, by rw [HST.out], ?_, ?_, H2.grown hg3 (by simp) (by simp) (by simp) (H2.b.grown hg3 hz4 (fun j e => by cases e))⟩, by simp [intOf]; omega⟩
                  · rw [HST.out, encs_append]
                    exact own_low ho3 hz4
                  · intro k hk
                    have h1 := own_base ho3 k hk
                    have h2 := H2.lt
                    omega
            · obtain rfl : d = st.length := by omega
              obtain ⟨A2, c2, hu2, -⟩ := own_form HP
              subst hu2
              go_wp2
              go_ret3
              refine ⟨_, by rw [HR2.out]; rfl, ?_, H.b⟩
              rw [HR2.out]
              exact Kd.R_of_own (by rw [planK_len]; exact HP) (fun _ _ => trivial)
  · have HR : Hid (hedgedR st lot bound held = ([], 0, t)) := by show _ = _; rw [hedgedR, ← ht, if_pos h0]
    clear ht
    go_enter Try.func59, Try.ntmps59
    go_wp2_with (go_at_call 103; refine hCH.mono ?_; rintro e w1 ⟨rfl, hB1⟩)
    go_ret3
    exact ⟨_, by rw [HR.out]; rfl, by rw [HR.out]; exact Kd.R_nil _ _ _ _ _, B0.trans (hB1.mono (by simp))⟩
end Go.Proofs.Ytkdlbocjgbmbdaa.Print

namespace Go.Proofs.Ytkdlbocjgbmbdaa.Print
open Go.RowKit Go.Shelf Go.Proofs.YtkdlbocjgbmbdaaW.PrintWords
set_option linter.unusedVariables false
attribute [local go_sem] Oper.semAt_some
attribute [local go_sem] wide_fn wide_asked
theorem run_index134 (xs : List Bool) (k : Int) (h0 : 0 ≤ k) (h1 : k < 8) (w : World) : (Instr.index 134 (.agg (boolCells xs)) (.int .i64 k)).run Try.prog w = .ok (.agg (boolCells ((xs.drop (k.toNat * 8)).take 8))) w := by
  unfold Instr.index
  simp only [asIntOf, Sem.run_bind, Sem.run_pure, Result.andThen_ok, run_underlying Try.underlying134, siz132]
  rw [if_pos ⟨h0, h1⟩]
  simp only [Sem.run_bind, siz132, Result.andThen_ok]
  exact part132 xs k.toNat w
theorem run_index132 (xs : List Bool) (hx : xs.length = 8) (k : Int) (h0 : 0 ≤ k) (h1 : k < 8) (w : World) : (Instr.index 132 (.agg (boolCells xs)) (.int .i64 k)).run Try.prog w = .ok (.bool (xs.getD k.toNat false)) w := by
  unfold Instr.index
  simp only [asIntOf, Sem.run_bind, Sem.run_pure, Result.andThen_ok, run_underlying Try.underlying132, siz4]
  rw [if_pos ⟨h0, h1⟩]
  simp only [Sem.run_bind, siz4, Result.andThen_ok]
  exact part4 xs k.toNat (by omega) w
section
variable {ops : Array Oper} {rest : List Oper} {o : Oper} {a : Act} {Q : Exit → Act → World → Prop} {W : World}
theorem ev_index134 (hgd : o.guard = none) (x ix : Operand) (ho : o.op = .index 134 x ix) {xs : List Bool} {k : Int} (hx : a.eval x = .agg (boolCells xs)) (hk : a.eval ix = .int .i64 k) (h0 : 0 ≤ k) (h1 : k < 8) (h : wpList Try.prog ops Q rest (a.put o.dst (.agg (boolCells ((xs.drop (k.toNat * 8)).take 8)))) W) : wpList Try.prog ops Q (o :: rest) a W := by
  refine wpList_plain hgd fun K hK => ?_
  unfold Oper.wp execOp
  simp only [ho, hx, hk, Sem.run_bind, run_index134 xs k h0 h1, Result.andThen_ok, Sem.run_pure]
  exact hK _ _ h
theorem ev_index132 (hgd : o.guard = none) (x ix : Operand) (ho : o.op = .index 132 x ix) {xs : List Bool} {k : Int} (hx : a.eval x = .agg (boolCells xs)) (hl : xs.length = 8) (hk : a.eval ix = .int .i64 k) (h0 : 0 ≤ k) (h1 : k < 8) (h : wpList Try.prog ops Q rest (a.put o.dst (.bool (xs.getD k.toNat false))) W) : wpList Try.prog ops Q (o :: rest) a W := by
  refine wpList_plain hgd fun K hK => ?_
  unfold Oper.wp execOp
  simp only [ho, hx, hk, Sem.run_bind, run_index132 xs hl k h0 h1, Result.andThen_ok, Sem.run_pure]
  exact hK _ _ h
end
def tieAt (xs : List Bool) (a b : Int) : Bool := xs.getD (a.toNat * 8 + b.toNat) false
theorem row_at {xs : List Bool} {a b : Int} (hb : b.toNat < 8) : ((xs.drop (a.toNat * 8)).take 8).getD b.toNat false = tieAt xs a b := by
  simp only [tieAt, List.getD_eq_getElem?_getD]
  rw [List.getElem?_take, if_pos hb, List.getElem?_drop]
theorem row_len {xs : List Bool} (h : xs.length = 64) {a : Int} (ha : a.toNat < 8) : ((xs.drop (a.toNat * 8)).take 8).length = 8 := by simp; omega
def sameR (names limit window : Int) (ls : List S84) (ds : List S61) (a b : Int) : Int × Int :=
  if tillE names limit window ls ds ≠ 0 then (0, tillE names limit window ls ds) else if inB a 0 (names - 1) = false then (0, 3) else if inB b 0 (names - 1) = false then (0, 3)
  else if tieAt (tiesL false ls) a b = true then (1, 0) else if tieAt (tiesL true ls) a b = true then (3, 0) else (2, 0)
set_option maxRecDepth 100000 in
set_option maxHeartbeats 8000000 in
theorem same_any (names limit window : Int) (A0 : Option Addr) (c0 : Nat) (ls : List S84) (A1 : Option Addr) (c1 : Nat) (ds : List S61) (a b : Int) (w : World)
    (hl : Kd.C k84 w A0 ls.length ls) (hlc : ls.length ≤ c0) (hd : Kd.C k61 w A1 ds.length ds) :
    Calls Try.prog 69 #[.agg #[.int .i64 names, .int .i64 limit, .int .i64 window, .slice A0 ls.length c0, .slice A1 ds.length c1], .int .i64 a, .int .i64 b] w fun e w' =>
      e = .returned (.tuple #[.int .i64 (sameR names limit window ls ds a b).1, .int .i64 (sameR names limit window ls ds a b).2]) ∧ Below w.heap.size w w' := by
  obtain ⟨t, ht⟩ : ∃ t, t = tillE names limit window ls ds := ⟨_, rfl⟩
  obtain ⟨r, hr⟩ : ∃ r, r = sameR names limit window ls ds a b := ⟨_, rfl⟩
  have HT : Hid (t = tillE names limit window ls ds) := ht
  have hL : Below w.heap.size w (w.alloc (.cells #[.int .i64 names, .int .i64 limit, .int .i64 window, .slice A0 ls.length c0, .slice A1 ds.length c1] 48)) := below_alloc (Below.refl _ _) _
  rw [← hr]
  by_cases h0 : t = 0
  · have hok : TillOk names limit window ls ds := tillE_ok (by rw [← ht]; exact h0)
    rw [sameR, ← ht, if_neg (by simpa using h0)] at hr
    clear ht
    have hn1 := hok.n1
    have hn8 := hok.n8
    cases ha : inB a 0 (names - 1) with
    | false =>
      rw [if_pos ha] at hr
      subst hr
      go_enter Try.func69, Try.ntmps69
      go_wp2_with (first
        | (go_at_call 73; refine (check73_any names limit window A0 c0 ls A1 c1 ds _ (Kd.C_below hl hL) hlc (Kd.C_below hd hL)).mono ?_; rintro e w1 ⟨rfl, hB⟩; rw [← HT.out, h0]; have b0 : Blk w1 w.heap.size 48 #[.int .i64 names, .int .i64 limit, .int .i64 window, .slice A0 ls.length c0, .slice A1 ds.length c1] := (blk_new w 48 _).below hB (by simp); have d0 := b0.cell 0 rfl; have hB1 : Below w.heap.size w w1 := hL.trans (hB.mono (by simp)))
        | (go_at_call 81; refine (in_any _ _ _ _).mono ?_; rintro e w' ⟨rfl, rfl⟩))
      go_ret2
      exact ⟨rfl, hB1⟩
    | true =>
      cases hb : inB b 0 (names - 1) with
      | false =>
        rw [ha, if_neg (by simp), if_pos hb] at hr
        subst hr
        go_enter Try.func69, Try.ntmps69
        go_wp2_with (first
          | (go_at_call 73; refine (check73_any names limit window A0 c0 ls A1 c1 ds _ (Kd.C_below hl hL) hlc (Kd.C_below hd hL)).mono ?_; rintro e w1 ⟨rfl, hB⟩; rw [← HT.out, h0]; have b0 : Blk w1 w.heap.size 48 #[.int .i64 names, .int .i64 limit, .int .i64 window, .slice A0 ls.length c0, .slice A1 ds.length c1] := (blk_new w 48 _).below hB (by simp); have d0 := b0.cell 0 rfl; have hB1 : Below w.heap.size w w1 := hL.trans (hB.mono (by simp)))
          | (go_at_call 81; refine (in_any _ _ _ _).mono ?_; rintro e w' ⟨rfl, rfl⟩))
        go_ret2
        exact ⟨rfl, hB1⟩
      | true =>
        rw [ha, if_neg (by simp), hb, if_neg (by simp)] at hr
        have hai := inB_true (n := a) (a := 0) (b := names - 1) (by rw [ha]; simp)
        have hbi := inB_true (n := b) (a := 0) (b := names - 1) (by rw [hb]; simp)
        have ha8 : a.toNat < 8 := by omega
        have hb8 : b.toNat < 8 := by omega
        cases hs : tieAt (tiesL false ls) a b with
        | true =>
          rw [if_pos hs] at hr
          subst hr
          go_enter Try.func69, Try.ntmps69
          go_wp2_with (first
            | (go_at_call 73; refine (check73_any names limit window A0 c0 ls A1 c1 ds _ (Kd.C_below hl hL) hlc (Kd.C_below hd hL)).mono ?_; rintro e w1 ⟨rfl, hB⟩; rw [← HT.out, h0]; have b0 : Blk w1 w.heap.size 48 #[.int .i64 names, .int .i64 limit, .int .i64 window, .slice A0 ls.length c0, .slice A1 ds.length c1] := (blk_new w 48 _).below hB (by simp); have d0 := b0.cell 0 rfl; have d1 := b0.cell 1 rfl; have d2 := b0.cell 2 rfl; have d3 := b0.cell 3 rfl; have d4 := b0.cell 4 rfl; have hB1 : Below w.heap.size w w1 := hL.trans (hB.mono (by simp)); have hl1 := Kd.C_below hl hB1)
            | (go_at_call 81; refine (in_any _ _ _ _).mono ?_; rintro e w' ⟨rfl, rfl⟩)
            | (go_at_call_of 87 (Value.bool false); refine (tiesOf_any names limit window A0 c0 ls (.slice A1 ds.length c1) false _ hl1 hok.links hok.n8).mono ?_; rintro e w2 ⟨rfl, hB2⟩; have b2 := b0.below hB2 b0.lt; have f0 := b2.cell 0 rfl; have f1 := b2.cell 1 rfl; have f2 := b2.cell 2 rfl; have f3 := b2.cell 3 rfl; have f4 := b2.cell 4 rfl; have hl2 := Kd.C_below hl1 hB2)
            | ((with_reducible refine gate_dst (N := 31) rfl ?_); refine ev_index134 rfl _ _ rfl (xs := tiesL false ls) rfl rfl hai.1 (by omega) ?_)
            | ((with_reducible refine gate_dst (N := 33) rfl ?_); refine ev_index132 rfl _ _ rfl (xs := ((tiesL false ls).drop (a.toNat * 8)).take 8) rfl (row_len (tiesL_len _ _) ha8) rfl hbi.1 (by omega) ?_; rw [row_at hb8, hs]))
          go_ret2
          exact ⟨rfl, hB1.trans (hB2.mono hB1.size)⟩
        | false =>
          rw [hs, if_neg (by simp)] at hr
          cases hs2 : tieAt (tiesL true ls) a b with
          | true =>
            rw [if_pos hs2] at hr
            subst hr
            go_enter Try.func69, Try.ntmps69
            go_wp2_with (first
              | (go_at_call 73; refine (check73_any names limit window A0 c0 ls A1 c1 ds _ (Kd.C_below hl hL) hlc (Kd.C_below hd hL)).mono ?_; rintro e w1 ⟨rfl, hB⟩; rw [← HT.out, h0]; have b0 : Blk w1 w.heap.size 48 #[.int .i64 names, .int .i64 limit, .int .i64 window, .slice A0 ls.length c0, .slice A1 ds.length c1] := (blk_new w 48 _).below hB (by simp); have d0 := b0.cell 0 rfl; have d1 := b0.cell 1 rfl; have d2 := b0.cell 2 rfl; have d3 := b0.cell 3 rfl; have d4 := b0.cell 4 rfl; have hB1 : Below w.heap.size w w1 := hL.trans (hB.mono (by simp)); have hl1 := Kd.C_below hl hB1)
              | (go_at_call 81; refine (in_any _ _ _ _).mono ?_; rintro e w' ⟨rfl, rfl⟩)
              | (go_at_call_of 87 (Value.bool false); refine (tiesOf_any names limit window A0 c0 ls (.slice A1 ds.length c1) false _ hl1 hok.links hok.n8).mono ?_; rintro e w2 ⟨rfl, hB2⟩; have b2 := b0.below hB2 b0.lt; have f0 := b2.cell 0 rfl; have f1 := b2.cell 1 rfl; have f2 := b2.cell 2 rfl; have f3 := b2.cell 3 rfl; have f4 := b2.cell 4 rfl; have hl2 := Kd.C_below hl1 hB2)
              | ((with_reducible refine gate_dst (N := 31) rfl ?_); refine ev_index134 rfl _ _ rfl (xs := tiesL false ls) rfl rfl hai.1 (by omega) ?_)
              | ((with_reducible refine gate_dst (N := 33) rfl ?_); refine ev_index132 rfl _ _ rfl (xs := ((tiesL false ls).drop (a.toNat * 8)).take 8) rfl (row_len (tiesL_len _ _) ha8) rfl hbi.1 (by omega) ?_; rw [row_at hb8, hs])
              | (go_at_call_of 87 (Value.bool true); refine (tiesOf_any names limit window A0 c0 ls (.slice A1 ds.length c1) true _ hl2 hok.links hok.n8).mono ?_; rintro e w3 ⟨rfl, hB3⟩)
              | ((with_reducible refine gate_dst (N := 38) rfl ?_); refine ev_index134 rfl _ _ rfl (xs := tiesL true ls) rfl rfl hai.1 (by omega) ?_)
              | ((with_reducible refine gate_dst (N := 40) rfl ?_); refine ev_index132 rfl _ _ rfl (xs := ((tiesL true ls).drop (a.toNat * 8)).take 8) rfl (row_len (tiesL_len _ _) ha8) rfl hbi.1 (by omega) ?_; rw [row_at hb8, hs2]))
            go_ret2
            exact ⟨rfl, (hB1.trans (hB2.mono hB1.size)).trans (hB3.mono (Nat.le_trans hB1.size hB2.size))⟩
          | false =>
            rw [hs2, if_neg (by simp)] at hr
            subst hr
            go_enter Try.func69, Try.ntmps69
            go_wp2_with (first
              | (go_at_call 73; refine (check73_any names limit window A0 c0 ls A1 c1 ds _ (Kd.C_below hl hL) hlc (Kd.C_below hd hL)).mono ?_; rintro e w1 ⟨rfl, hB⟩; rw [← HT.out, h0]; have b0 : Blk w1 w.heap.size 48 #[.int .i64 names, .int .i64 limit, .int .i64 window, .slice A0 ls.length c0, .slice A1 ds.length c1] := (blk_new w 48 _).below hB (by simp); have d0 := b0.cell 0 rfl; have d1 := b0.cell 1 rfl; have d2 := b0.cell 2 rfl; have d3 := b0.cell 3 rfl; have d4 := b0.cell 4 rfl; have hB1 : Below w.heap.size w w1 := hL.trans (hB.mono (by simp)); have hl1 := Kd.C_below hl hB1)
              | (go_at_call 81; refine (in_any _ _ _ _).mono ?_; rintro e w' ⟨rfl, rfl⟩)
              | (go_at_call_of 87 (Value.bool false); refine (tiesOf_any names limit window A0 c0 ls (.slice A1 ds.length c1) false _ hl1 hok.links hok.n8).mono ?_; rintro e w2 ⟨rfl, hB2⟩; have b2 := b0.below hB2 b0.lt; have f0 := b2.cell 0 rfl; have f1 := b2.cell 1 rfl; have f2 := b2.cell 2 rfl; have f3 := b2.cell 3 rfl; have f4 := b2.cell 4 rfl; have hl2 := Kd.C_below hl1 hB2)
              | ((with_reducible refine gate_dst (N := 31) rfl ?_); refine ev_index134 rfl _ _ rfl (xs := tiesL false ls) rfl rfl hai.1 (by omega) ?_)
              | ((with_reducible refine gate_dst (N := 33) rfl ?_); refine ev_index132 rfl _ _ rfl (xs := ((tiesL false ls).drop (a.toNat * 8)).take 8) rfl (row_len (tiesL_len _ _) ha8) rfl hbi.1 (by omega) ?_; rw [row_at hb8, hs])
              | (go_at_call_of 87 (Value.bool true); refine (tiesOf_any names limit window A0 c0 ls (.slice A1 ds.length c1) true _ hl2 hok.links hok.n8).mono ?_; rintro e w3 ⟨rfl, hB3⟩)
              | ((with_reducible refine gate_dst (N := 38) rfl ?_); refine ev_index134 rfl _ _ rfl (xs := tiesL true ls) rfl rfl hai.1 (by omega) ?_)
              | ((with_reducible refine gate_dst (N := 40) rfl ?_); refine ev_index132 rfl _ _ rfl (xs := ((tiesL true ls).drop (a.toNat * 8)).take 8) rfl (row_len (tiesL_len _ _) ha8) rfl hbi.1 (by omega) ?_; rw [row_at hb8, hs2]))
            go_ret2
            exact ⟨rfl, (hB1.trans (hB2.mono hB1.size)).trans (hB3.mono (Nat.le_trans hB1.size hB2.size))⟩
  · rw [sameR, ← ht, if_pos h0] at hr
    subst hr
    clear ht
    go_enter Try.func69, Try.ntmps69
    go_wp2_with (go_at_call 73; refine (check73_any names limit window A0 c0 ls A1 c1 ds _ (Kd.C_below hl hL) hlc (Kd.C_below hd hL)).mono ?_; rintro e w1 ⟨rfl, hB⟩; rw [← HT.out])
    go_ret2
    exact ⟨rfl, hL.trans (hB.mono (by simp))⟩
end Go.Proofs.Ytkdlbocjgbmbdaa.Print

namespace Go.Proofs.Ytkdlbocjgbmbdaa.Print
open Go.RowKit Go.Shelf Go.Proofs.YtkdlbocjgbmbdaaW.PrintWords
set_option linter.unusedVariables false
attribute [local go_sem] Oper.semAt_some
attribute [local go_sem] wide_fn wide_asked
def dayE (names limit window : Int) (ls : List S84) (ds : List S61) (name day : Int) (fine : Bool) : Int :=
  if tillE names limit window ls ds ≠ 0 then tillE names limit window ls ds else if inB name 0 (names - 1) = false then 3 else if inB day 0 4000 = false then 1 else if fine = false then 1
  else if 0 < ds.length ∧ day < (ds.getD (ds.length - 1) z61).f0 then 12 else if keptT true names limit window ls ds = false then 13 else 0
set_option maxRecDepth 100000 in
set_option maxHeartbeats 4000000 in
theorem day_any (names limit window : Int) (A0 : Option Addr) (c0 : Nat) (ls : List S84) (A1 : Option Addr) (c1 : Nat) (ds : List S61) (name day : Int) (fine : Bool) (w : World)
    (hl : Kd.C k84 w A0 ls.length ls) (hlc : ls.length ≤ c0) (hd : Kd.C k61 w A1 ds.length ds) :
    Calls Try.prog 85 #[.agg #[.int .i64 names, .int .i64 limit, .int .i64 window, .slice A0 ls.length c0, .slice A1 ds.length c1], .int .i64 name, .int .i64 day, .bool fine] w fun e w' =>
      e = .returned (.int .i64 (dayE names limit window ls ds name day fine)) ∧ Below w.heap.size w w' := by
  obtain ⟨t, ht⟩ : ∃ t, t = tillE names limit window ls ds := ⟨_, rfl⟩
  obtain ⟨r, hr⟩ : ∃ r, r = dayE names limit window ls ds name day fine := ⟨_, rfl⟩
  have HT : Hid (t = tillE names limit window ls ds) := ht
  have hL : Below w.heap.size w (w.alloc (.cells #[.int .i64 names, .int .i64 limit, .int .i64 window, .slice A0 ls.length c0, .slice A1 ds.length c1] 48)) := below_alloc (Below.refl _ _) _
  have hmax := Kd.C_max hd
  rw [← hr]
  by_cases h0 : t = 0
  · have hok : TillOk names limit window ls ds := tillE_ok (by rw [← ht]; exact h0)
    rw [dayE, ← ht, if_neg (by simpa using h0)] at hr
    clear ht
    have hn1 := hok.n1
    have hn8 := hok.n8
    cases ha : inB name 0 (names - 1) with
    | false =>
      rw [if_pos ha] at hr
      subst hr
      go_enter Try.func85, Try.ntmps85
      go_wp2_with (first
        | (go_at_call 73; refine (check73_any names limit window A0 c0 ls _ c1 ds _ (Kd.C_below hl hL) hlc (Kd.C_below hd hL)).mono ?_; rintro e w1 ⟨rfl, hB⟩; rw [← HT.out, h0]; have b0 : Blk w1 w.heap.size 48 #[.int .i64 names, .int .i64 limit, .int .i64 window, .slice A0 ls.length c0, .slice A1 ds.length c1] := (blk_new w 48 _).below hB (by simp); have d0 := b0.cell 0 rfl; have d4 := b0.cell 4 rfl; have hB1 : Below w.heap.size w w1 := hL.trans (hB.mono (by simp)); have hl1 := Kd.C_below hl hB1; have hd1 := Kd.C_below hd hB1)
        | (go_at_call 81; refine (in_any _ _ _ _).mono ?_; rintro e w' ⟨rfl, rfl⟩))
      go_ret
      exact ⟨rfl, hB1⟩
    | true =>
      rw [ha, if_neg (by simp)] at hr
      cases hb : inB day 0 4000 with
      | false =>
        rw [if_pos hb] at hr
        subst hr
        go_enter Try.func85, Try.ntmps85
        go_wp2_with (first
          | (go_at_call 73; refine (check73_any names limit window A0 c0 ls _ c1 ds _ (Kd.C_below hl hL) hlc (Kd.C_below hd hL)).mono ?_; rintro e w1 ⟨rfl, hB⟩; rw [← HT.out, h0]; have b0 : Blk w1 w.heap.size 48 #[.int .i64 names, .int .i64 limit, .int .i64 window, .slice A0 ls.length c0, .slice A1 ds.length c1] := (blk_new w 48 _).below hB (by simp); have d0 := b0.cell 0 rfl; have d4 := b0.cell 4 rfl; have hB1 : Below w.heap.size w w1 := hL.trans (hB.mono (by simp)); have hl1 := Kd.C_below hl hB1; have hd1 := Kd.C_below hd hB1)
          | (go_at_call 81; refine (in_any _ _ _ _).mono ?_; rintro e w' ⟨rfl, rfl⟩))
        go_ret
        exact ⟨rfl, hB1⟩
      | true =>
        rw [hb, if_neg (by simp)] at hr
        cases fine with
        | false =>
          rw [if_pos rfl] at hr
          subst hr
          go_enter Try.func85, Try.ntmps85
          go_wp2_with (first
            | (go_at_call 73; refine (check73_any names limit window A0 c0 ls _ c1 ds _ (Kd.C_below hl hL) hlc (Kd.C_below hd hL)).mono ?_; rintro e w1 ⟨rfl, hB⟩; rw [← HT.out, h0]; have b0 : Blk w1 w.heap.size 48 #[.int .i64 names, .int .i64 limit, .int .i64 window, .slice A0 ls.length c0, .slice A1 ds.length c1] := (blk_new w 48 _).below hB (by simp); have d0 := b0.cell 0 rfl; have d4 := b0.cell 4 rfl; have hB1 : Below w.heap.size w w1 := hL.trans (hB.mono (by simp)); have hl1 := Kd.C_below hl hB1; have hd1 := Kd.C_below hd hB1)
            | (go_at_call 81; refine (in_any _ _ _ _).mono ?_; rintro e w' ⟨rfl, rfl⟩))
          go_ret
          exact ⟨rfl, hB1⟩
        | true =>
          rw [if_neg (by simp)] at hr
          have hdb := inB_true (n := day) (a := 0) (b := 4000) (by rw [hb]; simp)
          rcases Nat.eq_zero_or_pos ds.length with hz | hz
          · rw [if_neg (by omega)] at hr
            have hzi : ¬ (0 : Int) < (ds.length : Int) := by omega
            clear hz
            cases hk1 : keptI (tiesL true ls) names limit window ds with
            | true =>
              have HR : Hid (r = 0) := by
                show r = 0
                rw [hr, keptT, hk1]; rfl
              clear hr
              go_enter Try.func85, Try.ntmps85
              go_wp2_with (first
                | (go_at_call 73; refine (check73_any names limit window A0 c0 ls _ c1 ds _ (Kd.C_below hl hL) hlc (Kd.C_below hd hL)).mono ?_; rintro e w1 ⟨rfl, hB⟩; rw [← HT.out, h0]; have b0 : Blk w1 w.heap.size 48 #[.int .i64 names, .int .i64 limit, .int .i64 window, .slice A0 ls.length c0, .slice A1 ds.length c1] := (blk_new w 48 _).below hB (by simp); have d0 := b0.cell 0 rfl; have d4 := b0.cell 4 rfl; have hB1 : Below w.heap.size w w1 := hL.trans (hB.mono (by simp)); have hl1 := Kd.C_below hl hB1; have hd1 := Kd.C_below hd hB1)
                | (go_at_call 81; refine (in_any _ _ _ _).mono ?_; rintro e w' ⟨rfl, rfl⟩))
              have e0 := ext_cell (b0.cell 0 rfl)
              have e1 := ext_cell (b0.cell 1 rfl)
              have e2 := ext_cell (b0.cell 2 rfl)
              have e3 := ext_cell (b0.cell 3 rfl)
              have e4 := ext_cell (b0.cell 4 rfl)
              refine wp_region_ext (by kernel_rfl) (by kernel_rfl) ?_
              repeat (gi_big_quiet_step ((rename_i x; first
                | exact callsIn_wide.2 ((tiesOf_any names limit window A0 c0 ls (.slice A1 ds.length c1) true x.1 (Kd.C_below hl1 x.2) hok.links hok.n8).mono fun e w' h => ⟨h.1, ext_go h.2⟩)
                | exact callsIn_wide.2 ((kept_any names limit window _ _ A1 c1 ds (tiesL true ls) x.1 (Kd.C_below hd1 x.2) (tiesL_len _ _) hok.w1 hok.w2 hok.dues (by omega) hok.n8 (by have := hok.fewd; omega)).mono fun e w' h => ⟨h.1.trans (by rw [hk1]), ext_go h.2⟩))))
              refine wpQuietIn_nil ?_
              rintro _ ⟨⟨W2, hx⟩, rfl⟩
              go_wp2
              go_ret
              exact ⟨by rw [HR.out]; rfl, hB1.trans (hx.mono hB1.size)⟩
            | false =>
              have HR : Hid (r = 13) := by
                show r = 13
                rw [hr, keptT, hk1]; rfl
              clear hr
              go_enter Try.func85, Try.ntmps85
              go_wp2_with (first
                | (go_at_call 73; refine (check73_any names limit window A0 c0 ls _ c1 ds _ (Kd.C_below hl hL) hlc (Kd.C_below hd hL)).mono ?_; rintro e w1 ⟨rfl, hB⟩; rw [← HT.out, h0]; have b0 : Blk w1 w.heap.size 48 #[.int .i64 names, .int .i64 limit, .int .i64 window, .slice A0 ls.length c0, .slice A1 ds.length c1] := (blk_new w 48 _).below hB (by simp); have d0 := b0.cell 0 rfl; have d4 := b0.cell 4 rfl; have hB1 : Below w.heap.size w w1 := hL.trans (hB.mono (by simp)); have hl1 := Kd.C_below hl hB1; have hd1 := Kd.C_below hd hB1)
                | (go_at_call 81; refine (in_any _ _ _ _).mono ?_; rintro e w' ⟨rfl, rfl⟩))
              have e0 := ext_cell (b0.cell 0 rfl)
              have e1 := ext_cell (b0.cell 1 rfl)
              have e2 := ext_cell (b0.cell 2 rfl)
              have e3 := ext_cell (b0.cell 3 rfl)
              have e4 := ext_cell (b0.cell 4 rfl)
              refine wp_region_ext (by kernel_rfl) (by kernel_rfl) ?_
              repeat (gi_big_quiet_step ((rename_i x; first
                | exact callsIn_wide.2 ((tiesOf_any names limit window A0 c0 ls (.slice A1 ds.length c1) true x.1 (Kd.C_below hl1 x.2) hok.links hok.n8).mono fun e w' h => ⟨h.1, ext_go h.2⟩)
                | exact callsIn_wide.2 ((kept_any names limit window _ _ A1 c1 ds (tiesL true ls) x.1 (Kd.C_below hd1 x.2) (tiesL_len _ _) hok.w1 hok.w2 hok.dues (by omega) hok.n8 (by have := hok.fewd; omega)).mono fun e w' h => ⟨h.1.trans (by rw [hk1]), ext_go h.2⟩))))
              refine wpQuietIn_nil ?_
              rintro _ ⟨⟨W2, hx⟩, rfl⟩
              go_wp2
              go_ret
              exact ⟨by rw [HR.out]; rfl, hB1.trans (hx.mono hB1.size)⟩
          · obtain ⟨d, hdd⟩ : ∃ d, d = ds.getD (ds.length - 1) z61 := ⟨_, rfl⟩
            rw [← hdd] at hr
            have HD : Hid (d = ds.getD (ds.length - 1) z61) := hdd
            clear hdd
            have hzi : (0 : Int) < (ds.length : Int) := by omega
            obtain ⟨ad, hA, k0, _⟩ := at_T61 hd ((ds.length - 1 : Nat) : Int) (by omega) (by omega)
            subst hA
            rw [rd_T61_at ds (ds.length - 1) (by omega), show ds[ds.length - 1]'(by omega) = d by rw [HD.out, List.getD_eq_getElem?_getD, List.getElem?_eq_getElem (by omega)]; rfl] at k0
            simp only [Int.toNat_natCast] at k0
            have k1 : w.cell? (ad.add (((ds.length : Int) - 1).toNat * 4)) = some (.int .i64 d.f0) := by
              rw [show ((ds.length : Int) - 1).toNat = ds.length - 1 by omega]; exact k0
            by_cases hlate : day < d.f0
            · rw [if_pos ⟨hz, hlate⟩] at hr
              subst hr
              go_enter Try.func85, Try.ntmps85
              go_wp2_with (first
                | (go_at_call 73; refine (check73_any names limit window A0 c0 ls (some ad) c1 ds _ (Kd.C_below hl hL) hlc (Kd.C_below hd hL)).mono ?_; rintro e w1 ⟨rfl, hB⟩; rw [← HT.out, h0]; have b0 : Blk w1 w.heap.size 48 #[.int .i64 names, .int .i64 limit, .int .i64 window, .slice A0 ls.length c0, .slice (some ad) ds.length c1] := (blk_new w 48 _).below hB (by simp); have d0 := b0.cell 0 rfl; have d4 := b0.cell 4 rfl; have hB1 : Below w.heap.size w w1 := hL.trans (hB.mono (by simp)); have hl1 := Kd.C_below hl hB1; have hd1 := Kd.C_below hd hB1; have k2 := (hB1.cell (World.block_lt_of_cell? w _ k0)).trans k0; have k3 := (hB1.cell (World.block_lt_of_cell? w _ k1)).trans k1)
                | (go_at_call 81; refine (in_any _ _ _ _).mono ?_; rintro e w' ⟨rfl, rfl⟩))
              go_ret
              exact ⟨rfl, hB1⟩
            · rw [if_neg (fun h => hlate h.2)] at hr
              cases hk1 : keptI (tiesL true ls) names limit window ds with
              | true =>
                have HR : Hid (r = 0) := by
                  show r = 0
                  rw [hr, keptT, hk1]; rfl
                clear hr
                go_enter Try.func85, Try.ntmps85
                go_wp2_with (first
                  | (go_at_call 73; refine (check73_any names limit window A0 c0 ls _ c1 ds _ (Kd.C_below hl hL) hlc (Kd.C_below hd hL)).mono ?_; rintro e w1 ⟨rfl, hB⟩; rw [← HT.out, h0]; have b0 : Blk w1 w.heap.size 48 #[.int .i64 names, .int .i64 limit, .int .i64 window, .slice A0 ls.length c0, .slice (some ad) ds.length c1] := (blk_new w 48 _).below hB (by simp); have d0 := b0.cell 0 rfl; have d4 := b0.cell 4 rfl; have hB1 : Below w.heap.size w w1 := hL.trans (hB.mono (by simp)); have hl1 := Kd.C_below hl hB1; have hd1 := Kd.C_below hd hB1; have k2 := (hB1.cell (World.block_lt_of_cell? w _ k0)).trans k0; have k3 := (hB1.cell (World.block_lt_of_cell? w _ k1)).trans k1)
                  | (go_at_call 81; refine (in_any _ _ _ _).mono ?_; rintro e w' ⟨rfl, rfl⟩))
                have e0 := ext_cell (b0.cell 0 rfl)
                have e1 := ext_cell (b0.cell 1 rfl)
                have e2 := ext_cell (b0.cell 2 rfl)
                have e3 := ext_cell (b0.cell 3 rfl)
                have e4 := ext_cell (b0.cell 4 rfl)
                refine wp_region_ext (by kernel_rfl) (by kernel_rfl) ?_
                repeat (gi_big_quiet_step ((rename_i x; first
                  | exact callsIn_wide.2 ((tiesOf_any names limit window A0 c0 ls (.slice (some ad) ds.length c1) true x.1 (Kd.C_below hl1 x.2) hok.links hok.n8).mono fun e w' h => ⟨h.1, ext_go h.2⟩)
                  | exact callsIn_wide.2 ((kept_any names limit window _ _ (some ad) c1 ds (tiesL true ls) x.1 (Kd.C_below hd1 x.2) (tiesL_len _ _) hok.w1 hok.w2 hok.dues (by omega) hok.n8 (by have := hok.fewd; omega)).mono fun e w' h => ⟨h.1.trans (by rw [hk1]), ext_go h.2⟩))))
                refine wpQuietIn_nil ?_
                rintro _ ⟨⟨W2, hx⟩, rfl⟩
                go_wp2
                go_ret
                exact ⟨by rw [HR.out]; rfl, hB1.trans (hx.mono hB1.size)⟩
              | false =>
                have HR : Hid (r = 13) := by
                  show r = 13
                  rw [hr, keptT, hk1]; rfl
                clear hr
                go_enter Try.func85, Try.ntmps85
                go_wp2_with (first
                  | (go_at_call 73; refine (check73_any names limit window A0 c0 ls _ c1 ds _ (Kd.C_below hl hL) hlc (Kd.C_below hd hL)).mono ?_; rintro e w1 ⟨rfl, hB⟩; rw [← HT.out, h0]; have b0 : Blk w1 w.heap.size 48 #[.int .i64 names, .int .i64 limit, .int .i64 window, .slice A0 ls.length c0, .slice (some ad) ds.length c1] := (blk_new w 48 _).below hB (by simp); have d0 := b0.cell 0 rfl; have d4 := b0.cell 4 rfl; have hB1 : Below w.heap.size w w1 := hL.trans (hB.mono (by simp)); have hl1 := Kd.C_below hl hB1; have hd1 := Kd.C_below hd hB1; have k2 := (hB1.cell (World.block_lt_of_cell? w _ k0)).trans k0; have k3 := (hB1.cell (World.block_lt_of_cell? w _ k1)).trans k1)
                  | (go_at_call 81; refine (in_any _ _ _ _).mono ?_; rintro e w' ⟨rfl, rfl⟩))
                have e0 := ext_cell (b0.cell 0 rfl)
                have e1 := ext_cell (b0.cell 1 rfl)
                have e2 := ext_cell (b0.cell 2 rfl)
                have e3 := ext_cell (b0.cell 3 rfl)
                have e4 := ext_cell (b0.cell 4 rfl)
                refine wp_region_ext (by kernel_rfl) (by kernel_rfl) ?_
                repeat (gi_big_quiet_step ((rename_i x; first
                  | exact callsIn_wide.2 ((tiesOf_any names limit window A0 c0 ls (.slice (some ad) ds.length c1) true x.1 (Kd.C_below hl1 x.2) hok.links hok.n8).mono fun e w' h => ⟨h.1, ext_go h.2⟩)
                  | exact callsIn_wide.2 ((kept_any names limit window _ _ (some ad) c1 ds (tiesL true ls) x.1 (Kd.C_below hd1 x.2) (tiesL_len _ _) hok.w1 hok.w2 hok.dues (by omega) hok.n8 (by have := hok.fewd; omega)).mono fun e w' h => ⟨h.1.trans (by rw [hk1]), ext_go h.2⟩))))
                refine wpQuietIn_nil ?_
                rintro _ ⟨⟨W2, hx⟩, rfl⟩
                go_wp2
                go_ret
                exact ⟨by rw [HR.out]; rfl, hB1.trans (hx.mono hB1.size)⟩
  · rw [dayE, ← ht, if_pos h0] at hr
    subst hr
    clear ht
    go_enter Try.func85, Try.ntmps85
    go_wp2_with (go_at_call 73; refine (check73_any names limit window A0 c0 ls _ c1 ds _ (Kd.C_below hl hL) hlc (Kd.C_below hd hL)).mono ?_; rintro e w1 ⟨rfl, hB⟩; rw [← HT.out])
    go_ret
    exact ⟨rfl, hL.trans (hB.mono (by simp))⟩
end Go.Proofs.Ytkdlbocjgbmbdaa.Print

namespace Go.Proofs.Ytkdlbocjgbmbdaa.Print
open Go.RowKit Go.Shelf Go.Proofs.YtkdlbocjgbmbdaaW.PrintWords
set_option linter.unusedVariables false
attribute [local go_sem] Oper.semAt_some
attribute [local go_sem] wide_fn wide_asked
structure DayOk (names limit window : Int) (ls : List S84) (ds : List S61) (name day : Int) (fine : Bool) : Prop where
  till : TillOk names limit window ls ds
  n0 : 0 ≤ name
  n1 : name < names
  d0 : 0 ≤ day
  d1 : day ≤ 4000
  fine : fine = true
  late : 0 < ds.length → (ds.getD (ds.length - 1) z61).f0 ≤ day
  kept : keptT true names limit window ls ds = true
theorem dayE_ok {names limit window : Int} {ls : List S84} {ds : List S61} {name day : Int} {fine : Bool} (h : dayE names limit window ls ds name day fine = 0) : DayOk names limit window ls ds name day fine := by
  unfold dayE at h
  split at h
  · rename_i g; exact absurd h g
  rename_i g0
  split at h
  · cases h
  rename_i g1
  split at h
  · cases h
  rename_i g2
  split at h
  · cases h
  rename_i g3
  split at h
  · cases h
  rename_i g4
  split at h
  · cases h
  rename_i g5
  have := inB_true g1
  have := inB_true g2
  exact ⟨tillE_ok (by simpa using g0), by omega, by omega, by omega, by omega, by simpa using g3, fun hz => by omega, by simpa using g5⟩
def roomV (names limit window : Int) (ls : List S84) (ds : List S61) (name day : Int) : Int := limit - sumWin (tiesL true ls) window name day ds (cashI ds ds.length)
def roomR (names limit window : Int) (ls : List S84) (ds : List S61) (name day : Int) : Int × Int :=
  if dayE names limit window ls ds name day true ≠ 0 then (0, dayE names limit window ls ds name day true) else (roomV names limit window ls ds name day, 0)
set_option maxRecDepth 100000 in
set_option maxHeartbeats 4000000 in
theorem room_any (names limit window : Int) (A0 : Option Addr) (c0 : Nat) (ls : List S84) (A1 : Option Addr) (c1 : Nat) (ds : List S61) (name day : Int) (w : World)
    (hl : Kd.C k84 w A0 ls.length ls) (hlc : ls.length ≤ c0) (hd : Kd.C k61 w A1 ds.length ds) :
    Calls Try.prog 33 #[.agg #[.int .i64 names, .int .i64 limit, .int .i64 window, .slice A0 ls.length c0, .slice A1 ds.length c1], .int .i64 name, .int .i64 day] w fun e w' =>
      e = .returned (.tuple #[.int .i64 (roomR names limit window ls ds name day).1, .int .i64 (roomR names limit window ls ds name day).2]) ∧ Below w.heap.size w w' := by
  obtain ⟨t, ht⟩ : ∃ t, t = dayE names limit window ls ds name day true := ⟨_, rfl⟩
  obtain ⟨r, hr⟩ : ∃ r, r = roomR names limit window ls ds name day := ⟨_, rfl⟩
  have HT : Hid (t = dayE names limit window ls ds name day true) := ht
  have hL : Below w.heap.size w (w.alloc (.cells #[.int .i64 names, .int .i64 limit, .int .i64 window, .slice A0 ls.length c0, .slice A1 ds.length c1] 48)) := below_alloc (Below.refl _ _) _
  rw [← hr]
  by_cases h0 : t = 0
  · have hok : DayOk names limit window ls ds name day true := dayE_ok (by rw [← ht]; exact h0)
    rw [roomR, ← ht, if_neg (by simpa using h0)] at hr
    clear ht
    obtain ⟨s, hs⟩ : ∃ s, s = sumWin (tiesL true ls) window name day ds (cashI ds ds.length) := ⟨_, rfl⟩
    have hsb := sumWin_bounds (tiesL true ls) names window name day ds hok.till.dues (cashI ds ds.length)
    have hcl := cashI_len ds ds.length
    have hfew := hok.till.fewd
    rw [roomV, ← hs] at hr
    rw [← hs] at hsb
    have HS : Hid (s = sumWin (tiesL true ls) window name day ds (cashI ds ds.length)) := hs
    clear hs
    have hs0 := hsb.1
    have hs1 : s ≤ 2000000000 := by omega
    have hl0 := hok.till.l0
    have hl1' := hok.till.l1
    have HR : Hid (r = (limit - s, 0)) := hr
    clear hr hsb hcl hfew
    go_enter Try.func33, Try.ntmps33
    go_wp2_with (go_at_call 85; refine (day_any names limit window A0 c0 ls A1 c1 ds name day true _ (Kd.C_below hl hL) hlc (Kd.C_below hd hL)).mono ?_; rintro e w1 ⟨rfl, hB⟩; rw [← HT.out, h0]; have b0 : Blk w1 w.heap.size 48 #[.int .i64 names, .int .i64 limit, .int .i64 window, .slice A0 ls.length c0, .slice A1 ds.length c1] := (blk_new w 48 _).below hB (by simp); have hB1 : Below w.heap.size w w1 := hL.trans (hB.mono (by simp)); have hl1 := Kd.C_below hl hB1; have hd1 := Kd.C_below hd hB1)
    have e0 := ext_cell (b0.cell 0 rfl)
    have e1 := ext_cell (b0.cell 1 rfl)
    have e2 := ext_cell (b0.cell 2 rfl)
    have e3 := ext_cell (b0.cell 3 rfl)
    have e4 := ext_cell (b0.cell 4 rfl)
    have hwr : IntKind.i64.wrap (limit - s) = limit - s := IntWalk.i64_in _ (by omega)
    refine wp_region_ext (by kernel_rfl) (by kernel_rfl) ?_
    repeat (gi_big_quiet_step ((rename_i x; first
      | exact callsIn_wide.2 ((tiesOf_any names limit window A0 c0 ls (.slice A1 ds.length c1) true x.1 (Kd.C_below hl1 x.2) hok.till.links hok.till.n8).mono fun e w' h => ⟨h.1, ext_go h.2⟩)
      | exact callsIn_wide.2 ((within_any names limit window _ _ A1 c1 ds (tiesL true ls) name day x.1 (Kd.C_below hd1 x.2) (tiesL_len _ _) hok.n0 (by have := hok.n1; have := hok.till.n8; omega) hok.till.w1 hok.till.w2 hok.d0 hok.d1 hok.till.dues hok.till.n8 (by have := hok.till.fewd; omega)).mono fun e w' h => ⟨h.1.trans (by rw [← HS.out]), ext_go h.2⟩))))
    refine wpQuietIn_nil ?_
    rintro _ ⟨⟨W2, hx⟩, rfl⟩
    go_wp2
    go_ret2
    exact ⟨by rw [HR.out]; rfl, hB1.trans (hx.mono hB1.size)⟩
  · rw [roomR, ← ht, if_pos h0] at hr
    subst hr
    clear ht
    go_enter Try.func33, Try.ntmps33
    go_wp2_with (go_at_call 85; refine (day_any names limit window A0 c0 ls A1 c1 ds name day true _ (Kd.C_below hl hL) hlc (Kd.C_below hd hL)).mono ?_; rintro e w1 ⟨rfl, hB⟩; rw [← HT.out])
    go_ret2
    exact ⟨rfl, hL.trans (hB.mono (by simp))⟩
end Go.Proofs.Ytkdlbocjgbmbdaa.Print

namespace Go.Proofs.Ytkdlbocjgbmbdaa.Print
open Go.RowKit Go.Shelf Go.Proofs.YtkdlbocjgbmbdaaW.PrintWords
set_option linter.unusedVariables false
attribute [local go_sem] Oper.semAt_some
attribute [local go_sem] wide_fn wide_asked
section
variable {ops : Array Oper} {rest : List Oper} {o : Oper} {a : Act} {Q : Exit → Act → World → Prop} {W : World}
theorem p_look (hg : o.guard = none) (mo xo : Operand) (hop : o.op = Op.lookup 140 mo xo false) {b n : Nat} {m} (hm : a.eval mo = .map (some b)) (h : IMap W b n m) {x y : Int} (hx : W64 x) (hy : W64 y) (hk : a.eval xo = whenV x y)
    (hK : wpList Try.prog ops Q rest (a.put o.dst (.int .i64 ((m x y).getD 0))) W) : wpList Try.prog ops Q (o :: rest) a W := by
  obtain ⟨D, hown, hD⟩ := h
  refine wpList_lookup_own_int W hg mo xo 140 hop 142 3 .i64 law142 Try.underlying140 Try.underlying3 (zero3 W) b n D hm hown _ _ hk (whenK_eq hx hy) fun c hat _ => ?_
  obtain ⟨h1, h2⟩ := hD x y hx hy
  rw [h2] at hat
  injection hat with e
  injection e with _ e
  rw [← e]
  exact hK
theorem p_put (hg : o.guard = none) (mo xo vo : Operand) (hop : o.op = Op.mapUpdate 140 mo xo vo) {b n : Nat} {m} (hm : a.eval mo = .map (some b)) (h : IMap W b n m) (hn : n < 1000000) {x y v : Int} (hx : W64 x) (hy : W64 y) (hv : W64 v) (hk : a.eval xo = whenV x y) (hvv : a.eval vo = .int .i64 v)
    (hK : ∀ W', IMap W' b (n + 1) (mput m x y v) → W.grownBy W' (some b) → wpList Try.prog ops Q rest (a.put o.dst undef) W') : wpList Try.prog ops Q (o :: rest) a W := by
  obtain ⟨D, hown, hD⟩ := h
  refine wpList_mapUpdate_own W hg mo xo vo 140 hop 142 3 law142 Try.underlying140 (plainElem Try.prog 3) b n D hm hown (by unfold maxLen; omega) _ _ _ hk hvv (whenK_eq hx hy) (.lit (.int .i64 v)) [] (plainElem_int Try.underlying3 (wf64 hv)) fun W' h1 h2 => ?_
  exact hK W' ⟨_, h1, imap_put hown.isMap hD hx hy⟩ h2
end
section
variable (Wn : Nat → Int) (limit window : Int)
def gAt (prev : List Int) (i : Int) : Int := if 0 ≤ i then prev.getD i.toNat 0 else 0
def rmFold (prev : List Int) (n : Nat) (s : Int) (l : List Nat) : Int := l.foldl (fun (r : Int) (j : Nat) => r - gAt prev ((n : Int) - window + 1 + (j : Int))) s
def rmNext (prev : List Int) (n : Nat) : Int := rmFold window prev n (limit - Wn n) (List.range (window - 1).toNat)
def rmS : Nat → List Int
  | 0 => []
  | n + 1 => rmS n ++ [rmNext Wn limit window (rmS n) n]
def rm (n : Nat) : Int := rmNext Wn limit window (rmS Wn limit window n) n
theorem rmS_len : ∀ n, (rmS Wn limit window n).length = n
  | 0 => rfl
  | n + 1 => by simp [rmS, rmS_len n]
def soonF (day : Int) : Nat → Nat → Int → Int × Int
  | 0, _, _ => (0, 12)
  | f + 1, n, c => if c ≤ rm Wn limit window n then (day + n, 0) else soonF day f (n + 1) (c - rm Wn limit window n)
end
section
variable {Wn : Nat → Int} {limit window : Int}
theorem rmS_at (n : Nat) : ∀ i, i < n → (rmS Wn limit window n).getD i 0 = rm Wn limit window i := by
  induction n with
  | zero => intro i h; omega
  | succ n ih =>
    intro i h
    rw [rmS, List.getD_eq_getElem?_getD]
    by_cases hi : i < n
    · rw [List.getElem?_append_left (by rw [rmS_len]; exact hi), ← List.getD_eq_getElem?_getD]
      exact ih i hi
    · obtain rfl : i = n := by omega
      rw [List.getElem?_append_right (by rw [rmS_len]; exact Nat.le_refl _), rmS_len]
      simp [rm]
theorem gAt_out (n : Nat) (i : Int) (h : i < 0 ∨ (n : Int) ≤ i) : gAt (rmS Wn limit window n) i = 0 := by
  unfold gAt
  split
  · rw [List.getD_eq_getElem?_getD, List.getElem?_eq_none (by rw [rmS_len]; omega)]; rfl
  · rfl
theorem gAt_in (n : Nat) (i : Int) (h0 : 0 ≤ i) (h : i < n) : gAt (rmS Wn limit window n) i = rm Wn limit window i.toNat := by
  unfold gAt
  rw [if_pos h0, rmS_at n i.toNat (by omega)]
theorem gAt_next (n : Nat) (i : Int) (h : i ≠ n) : gAt (rmS Wn limit window (n + 1)) i = gAt (rmS Wn limit window n) i := by
  by_cases h0 : 0 ≤ i
  · by_cases h1 : i < n
    · rw [gAt_in n i h0 h1, gAt_in (n + 1) i h0 (by push_cast; omega)]
    · rw [gAt_out n i (Or.inr (by omega)), gAt_out (n + 1) i (Or.inr (by push_cast; omega))]
  · rw [gAt_out n i (Or.inl (by omega)), gAt_out (n + 1) i (Or.inl (by omega))]
theorem gAt_last (n : Nat) : gAt (rmS Wn limit window (n + 1)) n = rm Wn limit window n := by
  rw [gAt_in (n + 1) n (by omega) (by push_cast; omega), Int.toNat_natCast]
theorem gAt_bounds (hl : 0 ≤ limit) (hbd : ∀ n : Nat, 0 ≤ rm Wn limit window n ∧ rm Wn limit window n ≤ limit) (n : Nat) (i : Int) : 0 ≤ gAt (rmS Wn limit window n) i ∧ gAt (rmS Wn limit window n) i ≤ limit := by
  by_cases h0 : 0 ≤ i
  · by_cases h1 : i < n
    · rw [gAt_in n i h0 h1]; exact hbd _
    · rw [gAt_out n i (Or.inr (by omega))]; exact ⟨Int.le_refl _, hl⟩
  · rw [gAt_out n i (Or.inl (by omega))]; exact ⟨Int.le_refl _, hl⟩
theorem rmFold_snoc (prev : List Int) (n : Nat) (s : Int) (j : Nat) : rmFold window prev n s (List.range (j + 1)) = rmFold window prev n s (List.range j) - gAt prev ((n : Int) - window + 1 + (j : Int)) := by
  unfold rmFold
  rw [List.range_succ, List.foldl_append]
  rfl
end
def soonE (names limit window : Int) (ls : List S84) (ds : List S61) (name day cents : Int) : Int := dayE names limit window ls ds name day (inB cents 0 100000000)
def soonW (window : Int) (ls : List S84) (ds : List S61) (name day : Int) (n : Nat) : Int := sumWin (tiesL true ls) window name (day + n) ds (cashI ds ds.length)
def soonR (names limit window : Int) (ls : List S84) (ds : List S61) (name day cents : Int) : Int × Int :=
  if soonE names limit window ls ds name day cents ≠ 0 then (0, soonE names limit window ls ds name day cents) else soonF (soonW window ls ds name day) limit window day (4001 - day).toNat 0 cents
set_option maxRecDepth 100000 in
set_option maxHeartbeats 8000000 in
theorem soon_main (names limit window : Int) (A0 : Option Addr) (c0 : Nat) (ls : List S84) (A1 : Option Addr) (c1 : Nat) (ds : List S61) (name day cents : Int) (w : World)
    (hl : Kd.C k84 w A0 ls.length ls) (hlc : ls.length ≤ c0) (hd : Kd.C k61 w A1 ds.length ds)
    (h0 : soonE names limit window ls ds name day cents = 0) (hbd : ∀ n : Nat, 0 ≤ rm (soonW window ls ds name day) limit window n ∧ rm (soonW window ls ds name day) limit window n ≤ limit) :
    Calls Try.prog 36 #[.agg #[.int .i64 names, .int .i64 limit, .int .i64 window, .slice A0 ls.length c0, .slice A1 ds.length c1], .int .i64 name, .int .i64 day, .int .i64 cents] w fun e w' =>
      e = .returned (.tuple #[.int .i64 (soonF (soonW window ls ds name day) limit window day (4001 - day).toNat 0 cents).1, .int .i64 (soonF (soonW window ls ds name day) limit window day (4001 - day).toNat 0 cents).2]) ∧ Below w.heap.size w w' := by
  obtain ⟨R, hR⟩ : ∃ R, R = soonF (soonW window ls ds name day) limit window day (4001 - day).toNat 0 cents := ⟨_, rfl⟩
  rw [← hR]
  have hok : DayOk names limit window ls ds name day (inB cents 0 100000000) := dayE_ok h0
  have hcb := inB_true (n := cents) (a := 0) (b := 100000000) (by rw [hok.fine]; simp)
  have HT : Hid (dayE names limit window ls ds name day (inB cents 0 100000000) = 0) := h0
  have HC : Hid (inB cents 0 100000000 = true) := hok.fine
  have hL : Below w.heap.size w (w.alloc (.cells #[.int .i64 names, .int .i64 limit, .int .i64 window, .slice A0 ls.length c0, .slice A1 ds.length c1] 48)) := below_alloc (Below.refl _ _) _
  obtain ⟨W0, hW0⟩ : ∃ W0, W0 = w.alloc (.cells #[.int .i64 names, .int .i64 limit, .int .i64 window, .slice A0 ls.length c0, .slice A1 ds.length c1] 48) := ⟨_, rfl⟩
  have b0 : Blk W0 w.heap.size 48 #[.int .i64 names, .int .i64 limit, .int .i64 window, .slice A0 ls.length c0, .slice A1 ds.length c1] := by rw [hW0]; exact blk_new _ _ _
  rw [← hW0] at hL
  have hmm := @run_makeMap Try.prog
  go_enter Try.func36, Try.ntmps36
  go_wp2
  rw [← hW0]
  clear hW0
  have hl0 := Kd.C_below hl hL
  have hd0 := Kd.C_below hd hL
  have e0 := ext_cell (b0.cell 0 rfl)
  have e1 := ext_cell (b0.cell 1 rfl)
  have e2 := ext_cell (b0.cell 2 rfl)
  have e3 := ext_cell (b0.cell 3 rfl)
  have e4 := ext_cell (b0.cell 4 rfl)
  refine wp_region_ext (by kernel_rfl) (by kernel_rfl) ?_
  repeat (gi_big_quiet_step ((rename_i x; first
    | exact callsIn_wide.2 ((in_any cents 0 100000000 x.1).mono fun e w' h => ⟨h.1, x, h.2⟩)
    | exact callsIn_wide.2 ((day_any names limit window A0 c0 ls A1 c1 ds name day (inB cents 0 100000000) x.1 (Kd.C_below hl0 x.2) hlc (Kd.C_below hd0 x.2)).mono fun e w' h => ⟨h.1.trans (by rw [HT.out]), ext_go h.2⟩))))
  refine wpQuietIn_nil ?_
  rintro W2 ⟨⟨_, hx⟩, rfl⟩
  replace b0 := b0.below hx b0.lt
  replace hl0 := Kd.C_below hl0 hx
  replace hd0 := Kd.C_below hd0 hx
  have hB2 : Below w.heap.size w W2 := hL.trans (hx.mono hL.size)
  clear e0 e1 e2 e3 e4 hx hL
  have e0 := b0.cell 0 rfl
  have e1 := b0.cell 1 rfl
  have e2 := b0.cell 2 rfl
  have e3 := b0.cell 3 rfl
  have e4 := b0.cell 4 rfl
  have HI : ∀ ys : List Bool, Hid (ys.length = 64 → (Try.prog.info? 134).map (·.size) = some (boolCells ys).size) := fun ys h => by rw [boolCells_size, h]; exact info134
  have h64 : Hid (zeros64.length = 64) := by show zeros64.length = 64; simp [zeros64]
  go_wp2_with (first
    | (go_at_call 87; refine (tiesOf_any names limit window A0 c0 ls (.slice A1 ds.length c1) true _ hl0 hok.till.links hok.till.n8).mono ?_; rintro e W3 ⟨rfl, hB3⟩; have b3 := b0.below hB3 b0.lt; have BB3 := hB2.trans (hB3.mono hB2.size))
    | ((with_reducible refine gate_dst (N := 11) rfl ?_); refine box_event rfl (N := 11) rfl (cs := boolCells zeros64) (t := 134) (alloc134 _ _ rfl _) ?_; intro g4 hg4 W4 hb4 hB4; have b4 := b3.below hB4 b3.lt; have z4 : Blk W4 g4 134 (boolCells zeros64) := hb4; have hg4' : w.heap.size < g4 := (by rw [hg4]; exact b3.lt); have BB4 := BB3.trans (hB4.mono BB3.size); clear hb4 hg4)
    | ((with_reducible refine gate_store (t := 134) (p := 11) rfl ?_); refine ev_store_row rfl 134 _ _ rfl rfl g4 (boolCells (tiesL true ls)) rfl rfl (t := 134) (old := boolCells zeros64) z4 ((HI _).out (tiesL_len _ _)) (by rw [boolCells_size, boolCells_size, h64.out, tiesL_len]) (boolCells_one _) ?_; intro W5 hb5 hg5; have b5 := b4.grown hg5 (by simp; omega); have BB5 := BB4.grown hg5 (by have := BB4.size; omega) (fun j e => by cases e; omega)))
  skip
  have hw1 := hok.till.w1
  have hw2 := hok.till.w2
  have hl0' := hok.till.l0
  have hl1' := hok.till.l1
  have hn0 := hok.n0
  have hn8 : name < 8 := by have := hok.n1; have := hok.till.n8; omega
  have hd0' := hok.d0
  have hd1' := hok.d1
  have hcl := cashI_len ds ds.length
  have hfew := hok.till.fewd
  obtain ⟨Wn, hWn⟩ : ∃ Wn, Wn = soonW window ls ds name day := ⟨_, rfl⟩
  have HWN : Hid (Wn = soonW window ls ds name day) := hWn
  rw [← hWn] at hbd hR
  have hbd2 : Hid (∀ n : Nat, 0 ≤ rm Wn limit window n ∧ rm Wn limit window n ≤ limit) := hbd
  have HR : Hid (R = soonF Wn limit window day (4001 - day).toNat 0 cents) := hR
  have HW : Hid (∀ n : Nat, 0 ≤ Wn n ∧ Wn n ≤ 2000000000) := fun n => by
    have := sumWin_bounds (tiesL true ls) names window name (day + n) ds hok.till.dues (cashI ds ds.length)
    rw [hWn]
    unfold soonW
    omega
  clear hbd hR hWn hcl hfew e0 e1 e2 e3 e4
  have hM : IMap (W5.alloc (.map #[] 0)) W5.heap.size 0 (fun _ _ => none) := imap_made rfl
  have z5 : Blk (W5.alloc (.map #[] 0)) g4 134 (boolCells (tiesL true ls)) := hb5.alloc _
  have b6 := b5.alloc (.map #[] 0)
  have BB6 : Below w.heap.size w (W5.alloc (.map #[] 0)) := below_alloc' BB5 _
  have hg6 : w.heap.size < W5.heap.size := b5.lt
  have hg46 : g4 < W5.heap.size := hb5.lt
  generalize W5.alloc (.map #[] 0) = W6 at *
  generalize W5.heap.size = g6 at *
  go_loopw [13, 3] (fun vd vc wr => ∃ (n : Nat) (c : Int), vd = .int .i64 (day + n) ∧ vc = .int .i64 c ∧ (day + n ≤ 4001) ∧ 0 ≤ c ∧ c ≤ 100000000 ∧ Hid (R = soonF Wn limit window day (4001 - (day + n)).toNat n c) ∧ Blk wr w.heap.size 48 #[.int .i64 names, .int .i64 limit, .int .i64 window, .slice A0 ls.length c0, .slice A1 ds.length c1] ∧ Blk wr g4 134 (boolCells (tiesL true ls)) ∧ (∃ m, IMap wr g6 n m ∧ Hid (∀ i : Int, W64 (day + i) → (m name (day + i)).getD 0 = gAt (rmS Wn limit window n) i)) ∧ Below w.heap.size w wr) (fun vd _ _ => (4001 - intOf vd).toNat)
  · exact ⟨0, cents, by simp, rfl, by simp; omega, hcb.1, hcb.2, by show R = _; rw [HR.out]; simp, b6, z5, ⟨_, hM, fun i _ => by simp [gAt, rmS]⟩, BB6⟩
  · obtain ⟨n, c, rfl, rfl, hdn, hc0, hc1, HF, q0, q4, ⟨m, qm, HG⟩, qB⟩ := hrel
    by_cases hle : day + (n : Int) ≤ 4000
    · have hf1 : (4001 - (day + (n : Int))).toNat = (4000 - (day + (n : Int))).toNat + 1 := by omega
      have HF2 : Hid (R = if c ≤ rm Wn limit window n then (day + n, 0) else soonF Wn limit window day (4000 - (day + (n : Int))).toNat (n + 1) (c - rm Wn limit window n)) := by
        show R = _
        rw [HF.out, hf1]; rfl
      clear HF hf1
      have hql := Kd.C_below hl qB
      have hqd := Kd.C_below hd qB
      have hs := HW.out n
      obtain ⟨s, hsd⟩ : ∃ s, s = Wn n := ⟨_, rfl⟩
      have HS : Hid (s = Wn n) := hsd
      rw [← hsd] at hs
      clear hsd
      have hs0 := hs.1
      have hs1 := hs.2
      clear hs
      have e0 := ext_cell (q0.cell 0 rfl)
      have e1 := ext_cell (q0.cell 1 rfl)
      have e2 := ext_cell (q0.cell 2 rfl)
      have e3 := ext_cell (q0.cell 3 rfl)
      have e4 := ext_cell (q0.cell 4 rfl)
      have hwr : IntKind.i64.wrap (limit - s) = limit - s := IntWalk.i64_in _ (by omega)
      go_wp2
      refine wp_region_ext (by kernel_rfl) (by kernel_rfl) ?_
      repeat (first
        | (gi_big_quiet_want; refine quietIn_load_row 134 _ rfl g4 rfl q4 Try.underlying134 rfl ((HI _).out (tiesL_len _ _)) ?_; go_big_quiet_on; simp only [Act.put, List.setIfInBounds_toArray, List.set_cons_succ, List.set_cons_zero])
        | gi_big_quiet_step ((rename_i x; exact callsIn_wide.2 ((within_any names limit window _ _ A1 c1 ds (tiesL true ls) name (day + n) x.1 (Kd.C_below hqd x.2) (tiesL_len _ _) hn0 hn8 hw1 hw2 (by omega) hle hok.till.dues hok.till.n8 (by have := hok.till.fewd; omega)).mono fun e w' h => ⟨h.1.trans (by rw [show sumWin (tiesL true ls) window name (day + n) ds (cashI ds ds.length) = s by rw [HS.out, HWN.out]; rfl]), ext_go h.2⟩))))
      refine wpQuietIn_nil ?_
      rintro W2' ⟨⟨_, hx⟩, rfl⟩
      replace q0 := q0.below hx q0.lt
      replace q4 := q4.below hx q4.lt
      replace qm := qm.below hx qm.lt
      replace qB := qB.trans (hx.mono qB.size)
      clear e0 e1 e2 e3 e4 hx hwr
      have e2 := q0.cell 2 rfl
      go_wp2
      have HB := fun i => gAt_bounds (Wn := Wn) (window := window) hl0' hbd2.out n i
      go_loop [15, 14] (fun vk vr => ∃ (j : Nat) (r : Int), (j : Int) ≤ window - 1 ∧ vk = .int .i64 (day + ((n : Int) - window + 1 + j)) ∧ vr = .int .i64 r ∧ r ≤ 100000000 ∧ -2000000000 - 100000000 * (j : Int) ≤ r ∧ Hid (r = rmFold window (rmS Wn limit window n) n (limit - s) (List.range j))) (fun vk _ => (day + n - intOf vk).toNat)
      · exact ⟨0, limit - s, by omega, by go_num, rfl, by omega, by omega, by show _ = _; rfl⟩
      · obtain ⟨j, r, hj, rfl, rfl, hr1, hr0, HRM⟩ := hrel
        by_cases hj2 : (j : Int) < window - 1
        · have hG1 := HG.out ((n : Int) - window + 1 + j) ⟨by omega, by omega⟩
          have hgb := HB ((n : Int) - window + 1 + j)
          obtain ⟨g, hg⟩ : ∃ g, g = gAt (rmS Wn limit window n) ((n : Int) - window + 1 + j) := ⟨_, rfl⟩
          rw [← hg] at hG1 hgb
          have HGG : Hid (g = gAt (rmS Wn limit window n) ((n : Int) - window + 1 + j)) := hg
          clear hg HB
          have hgb0 := hgb.1
          have hgb1 := hgb.2
          clear hgb
          go_wp2_with (at_lookup; refine p_look rfl _ _ rfl (b := g6) rfl qm (x := name) (y := day + ((n : Int) - window + 1 + j)) ⟨by omega, by omega⟩ ⟨by omega, by omega⟩ rfl ?_; rw [hG1])
          refine ⟨⟨j + 1, r - g, by omega, by rw [show day + ((n : Int) - window + 1 + (j : Int)) + 1 = day + ((n : Int) - window + 1 + ((j + 1 : Nat) : Int)) by push_cast; omega], rfl, by omega, by push_cast; omega, ?_⟩, by simp [intOf]; omega⟩
          show r - g = _
          rw [rmFold_snoc, ← HRM.out, ← HGG.out]
        · have hjw : (j : Int) = window - 1 := by omega
          have HE : Hid (r = rm Wn limit window n) := by
            show r = _
            rw [HRM.out, rm, rmNext, HS.out, show (window - 1).toNat = j by omega]
          clear hjw HB
          by_cases hc : c ≤ r
          · go_wp2
            go_ret2
            exact ⟨by rw [HF2.out, if_pos (by rw [← HE.out]; exact hc)]; rfl, qB⟩
          · go_wp2_with (at_mapUpdate; refine p_put rfl _ _ _ rfl (b := g6) rfl qm (by omega) (x := name) (y := day + (n : Int)) (v := r) ⟨by omega, by omega⟩ ⟨by omega, by omega⟩ ⟨by omega, by omega⟩ rfl rfl ?_; intro W7 q7 hg7)
            have hrn := hbd2.out n
            rw [← HE.out] at hrn
            refine ⟨⟨n + 1, c - r, by rw [show day + (n : Int) + 1 = day + ((n + 1 : Nat) : Int) by push_cast; omega], rfl, by push_cast; omega, by omega, by omega, ?_, q0.grown hg7 (by simp; omega), q4.grown hg7 (by simp; omega), ⟨_, q7, fun i hi => ?_⟩, qB.grown hg7 (by have := qB.size; omega) (fun j e => by cases e; omega)⟩, by simp [intOf]; omega⟩
            · show R = _
              rw [HF2.out, if_neg (by rw [← HE.out]; exact hc), ← HE.out, show (4001 - (day + ((n + 1 : Nat) : Int))).toNat = (4000 - (day + (n : Int))).toNat by push_cast; omega]
            · by_cases hin : i = n
              · subst hin
                rw [gAt_last, ← HE.out]
                simp [mput]
              · rw [gAt_next n i hin, ← HG.out i hi]
                have : ¬ (name = name ∧ day + i = day + (n : Int)) := fun h => hin (by omega)
                rw [mput, if_neg this]
    · have hf0 : (4001 - (day + (n : Int))).toNat = 0 := by omega
      have HF2 : Hid (R = (0, 12)) := by
        show R = _
        rw [HF.out, hf0]; rfl
      clear HF hf0
      go_wp2
      go_ret2
      exact ⟨by rw [HF2.out]; rfl, qB⟩
end Go.Proofs.Ytkdlbocjgbmbdaa.Print

namespace Go.Proofs.Ytkdlbocjgbmbdaa.Print
open Go.RowKit Go.Shelf Go.Proofs.YtkdlbocjgbmbdaaW.PrintWords
set_option linter.unusedVariables false
attribute [local go_sem] Oper.semAt_some
attribute [local go_sem] wide_fn wide_asked
def sumG (G : Int → Int) (a : Int) : Nat → Int
  | 0 => 0
  | k + 1 => sumG G a k + G (a + k)
theorem sumG_shift (G : Int → Int) : ∀ (k : Nat) (a : Int), sumG G a (k + 1) = G a + sumG G (a + 1) k
  | 0, a => by simp [sumG]
  | k + 1, a => by
    rw [sumG, sumG_shift G k a, sumG]
    have : a + 1 + (k : Int) = a + ((k + 1 : Nat) : Int) := by push_cast; omega
    rw [this]
    omega
theorem sumG_congr {G H : Int → Int} {a : Int} : ∀ (k : Nat), (∀ j : Nat, j < k → G (a + j) = H (a + j)) → sumG G a k = sumG H a k
  | 0, _ => rfl
  | k + 1, h => by rw [sumG, sumG, sumG_congr k (fun j hj => h j (by omega)), h k (by omega)]
theorem sumG_nonneg {G : Int → Int} {a : Int} : ∀ (k : Nat), (∀ j : Nat, j < k → 0 ≤ G (a + j)) → 0 ≤ sumG G a k
  | 0, _ => Int.le_refl _
  | k + 1, h => by
    rw [sumG]
    have := sumG_nonneg k (fun j hj => h j (by omega))
    have := h k (by omega)
    omega
section
variable (Wn : Nat → Int) (limit window : Int)
theorem rmFold_sum (prev : List Int) (n : Nat) (s : Int) : ∀ k : Nat, rmFold window prev n s (List.range k) = s - sumG (gAt prev) ((n : Int) - window + 1) k
  | 0 => by simp [rmFold, sumG]
  | k + 1 => by rw [rmFold_snoc, rmFold_sum prev n s k, sumG]; omega
def Gu (i : Int) : Int := if 0 ≤ i then rm Wn limit window i.toNat else 0
theorem rm_sum (n : Nat) (hw : 1 ≤ window) : rm Wn limit window n = limit - Wn n - sumG (Gu Wn limit window) ((n : Int) - window + 1) (window - 1).toNat := by
  rw [rm, rmNext, rmFold_sum]
  congr 1
  refine sumG_congr _ fun j hj => ?_
  by_cases h0 : 0 ≤ (n : Int) - window + 1 + j
  · rw [gAt_in n _ h0 (by omega), Gu, if_pos h0]
  · rw [gAt_out n _ (Or.inl (by omega)), Gu, if_neg h0]
theorem rm_bounds (hw : 1 ≤ window) (hW0 : ∀ n, 0 ≤ Wn n) (hWd : ∀ n, Wn (n + 1) ≤ Wn n) (hW : Wn 0 ≤ limit) : ∀ n, 0 ≤ rm Wn limit window n ∧ rm Wn limit window n ≤ limit := by
  have hdec : ∀ n, Wn n ≤ Wn 0 := fun n => by
    induction n with
    | zero => exact Int.le_refl _
    | succ n ih => exact Int.le_trans (hWd n) ih
  intro n
  induction n using Nat.strongRecOn with
  | _ n ih =>
    have hG : ∀ i : Int, i < n → 0 ≤ Gu Wn limit window i := fun i hi => by
      unfold Gu
      split
      · exact (ih i.toNat (by omega)).1
      · exact Int.le_refl _
    have hs : 0 ≤ sumG (Gu Wn limit window) ((n : Int) - window + 1) (window - 1).toNat := sumG_nonneg _ fun j hj => hG _ (by omega)
    have hn := rm_sum Wn limit window n hw
    have h1 := hW0 n
    refine ⟨?_, by omega⟩
    cases n with
    | zero =>
      have : sumG (Gu Wn limit window) (((0 : Nat) : Int) - window + 1) (window - 1).toNat = 0 := by
        have : sumG (Gu Wn limit window) (((0 : Nat) : Int) - window + 1) (window - 1).toNat = sumG (fun _ => 0) (((0 : Nat) : Int) - window + 1) (window - 1).toNat := sumG_congr _ fun j hj => by
          unfold Gu
          rw [if_neg (by omega)]
        rw [this]
        generalize (window - 1).toNat = k
        induction k with
        | zero => rfl
        | succ k ihk => rw [sumG, ihk]; rfl
      omega
    | succ n =>
      have hp := rm_sum Wn limit window n hw
      cases hk : (window - 1).toNat with
      | zero =>
        rw [hk] at hn
        simp only [sumG] at hn
        have := hdec (n + 1)
        omega
      | succ k =>
        rw [hk] at hn hp
        rw [sumG_shift] at hp
        rw [sumG] at hn
        have e1 : ((n + 1 : Nat) : Int) - window + 1 = (n : Int) - window + 1 + 1 := by push_cast; omega
        have e2 : (n : Int) - window + 1 + 1 + (k : Int) = (n : Int) := by omega
        rw [e1, e2] at hn
        have e3 : Gu Wn limit window (n : Int) = rm Wn limit window n := by unfold Gu; rw [if_pos (by omega), Int.toNat_natCast]
        rw [e3] at hn
        have h2 := hG ((n : Int) - window + 1) (by omega)
        have h3 := hWd n
        omega
end
section
variable {names limit window : Int} {ls : List S84} {ds : List S61}
theorem days_rise (h : ∀ i, i + 1 < ds.length → (ds.getD i z61).f0 ≤ (ds.getD (i + 1) z61).f0) : ∀ j i, i ≤ j → j < ds.length → (ds.getD i z61).f0 ≤ (ds.getD j z61).f0 := by
  intro j
  induction j with
  | zero =>
    intro i hi _
    have : i = 0 := by omega
    rw [this]
    exact Int.le_refl _
  | succ j ih =>
    intro i hi hj
    by_cases he : i = j + 1
    · subst he; exact Int.le_refl _
    · exact Int.le_trans (ih i (by omega) (by omega)) (h j hj)
theorem day_max (f : Fin ds.length → Int) : ∀ (l : List (Fin ds.length)), l ≠ [] → ∃ i ∈ l, ∀ j ∈ l, f j ≤ f i
  | [], h => absurd rfl h
  | [i], _ => ⟨i, by simp, fun j hj => by simp at hj; subst hj; exact Int.le_refl _⟩
  | i :: k :: l, _ => by
    obtain ⟨m, hm, hmax⟩ := day_max f (k :: l) (by simp)
    by_cases h : f m ≤ f i
    · refine ⟨i, by simp, fun j hj => ?_⟩
      rcases List.mem_cons.1 hj with rfl | hj
      · exact Int.le_refl _
      · exact Int.le_trans (hmax j hj) h
    · refine ⟨m, List.mem_cons_of_mem _ hm, fun j hj => ?_⟩
      rcases List.mem_cons.1 hj with rfl | hj
      · omega
      · exact hmax j hj
theorem sumWin_le (xs : List Bool) (name d e : Int) (hds : ∀ d ∈ ds, OkDue names d) (l : List (Fin ds.length)) (h : ∀ i ∈ l, inWin xs window name d ds[i] = true → inWin xs window name e ds[i] = true) : sumWin xs window name d ds l ≤ sumWin xs window name e ds l := by
  have : ∀ (l : List (Fin ds.length)) (s s' : Int), (∀ i ∈ l, inWin xs window name d ds[i] = true → inWin xs window name e ds[i] = true) → s ≤ s' → l.foldl (fun s i => winStep xs window name d s ds[i]) s ≤ l.foldl (fun s i => winStep xs window name e s ds[i]) s' := by
    intro l
    induction l with
    | nil => intro s s' _ h; exact h
    | cons i l ih =>
      intro s s' hi hs
      simp only [List.foldl_cons]
      refine ih _ _ (fun j hj => hi j (List.mem_cons_of_mem _ hj)) ?_
      have h1 := hi i (by simp)
      have h2 := (hds ds[i] (List.getElem_mem _)).cents0
      unfold winStep
      split
      · rename_i g
        rw [if_pos (h1 g)]
        omega
      · split <;> omega
  exact this l 0 0 h (Int.le_refl _)
theorem soon_bounds {name day : Int} {fine : Bool} (h : DayOk names limit window ls ds name day fine) : ∀ n : Nat, 0 ≤ rm (soonW window ls ds name day) limit window n ∧ rm (soonW window ls ds name day) limit window n ≤ limit := by
  have hT := h.till
  have hday : ∀ i : Fin ds.length, ds[i].f0 ≤ day := fun i => by
    have hlt := i.isLt
    have h1 := days_rise hT.rising (ds.length - 1) i.1 (by omega) (by omega)
    have h2 := h.late (by omega)
    rw [List.getD_eq_getElem?_getD, List.getElem?_eq_getElem i.2] at h1
    exact Int.le_trans h1 h2
  refine rm_bounds _ limit window hT.w1 (fun n => (sumWin_bounds _ names window name _ ds hT.dues _).1) (fun n => ?_) ?_
  · refine sumWin_le _ _ _ _ hT.dues _ fun i _ hi => ?_
    unfold inWin at hi ⊢
    simp only [Bool.and_eq_true, decide_eq_true_eq] at hi ⊢
    have := hday i
    refine ⟨hi.1, ?_, ?_⟩
    · have := hi.2.1; push_cast at this; omega
    · omega
  · by_cases hne : cashI ds ds.length = []
    · unfold soonW
      rw [hne]
      exact hT.l0
    · obtain ⟨i, hi, hmax⟩ := day_max (fun i => ds[i].f0) _ hne
      have hk := h.kept
      unfold keptT keptI at hk
      have h1 := List.all_eq_true.1 (List.all_eq_true.1 hk i hi) name.toNat (List.mem_range.2 (by have := h.n0; have := h.n1; omega))
      have e : ((name.toNat : Nat) : Int) = name := by have := h.n0; omega
      rw [e] at h1
      refine Int.le_trans ?_ (of_decide_eq_true h1)
      refine sumWin_le _ _ _ _ hT.dues _ fun j hj hjw => ?_
      unfold inWin at hjw ⊢
      simp only [Bool.and_eq_true, decide_eq_true_eq] at hjw ⊢
      have := hday i
      have := hmax j hj
      refine ⟨hjw.1, ?_, this⟩
      have := hjw.2.1
      push_cast at this
      omega
set_option maxRecDepth 100000 in
set_option maxHeartbeats 8000000 in
theorem soon_any (names limit window : Int) (A0 : Option Addr) (c0 : Nat) (ls : List S84) (A1 : Option Addr) (c1 : Nat) (ds : List S61) (name day cents : Int) (w : World)
    (hl : Kd.C k84 w A0 ls.length ls) (hlc : ls.length ≤ c0) (hd : Kd.C k61 w A1 ds.length ds) :
    Calls Try.prog 36 #[.agg #[.int .i64 names, .int .i64 limit, .int .i64 window, .slice A0 ls.length c0, .slice A1 ds.length c1], .int .i64 name, .int .i64 day, .int .i64 cents] w fun e w' =>
      e = .returned (.tuple #[.int .i64 (soonR names limit window ls ds name day cents).1, .int .i64 (soonR names limit window ls ds name day cents).2]) ∧ Below w.heap.size w w' := by
  by_cases h0 : soonE names limit window ls ds name day cents = 0
  · have := soon_main names limit window A0 c0 ls A1 c1 ds name day cents w hl hlc hd h0 (soon_bounds (dayE_ok h0))
    rw [soonR, if_neg (by simpa using h0)]
    exact this
  · obtain ⟨t, ht⟩ : ∃ t, t = soonE names limit window ls ds name day cents := ⟨_, rfl⟩
    rw [soonR, if_pos h0, ← ht]
    rw [← ht] at h0
    have HT : Hid (t = dayE names limit window ls ds name day (inB cents 0 100000000)) := ht
    clear ht
    have hL : Below w.heap.size w (w.alloc (.cells #[.int .i64 names, .int .i64 limit, .int .i64 window, .slice A0 ls.length c0, .slice A1 ds.length c1] 48)) := below_alloc (Below.refl _ _) _
    obtain ⟨W0, hW0⟩ : ∃ W0, W0 = w.alloc (.cells #[.int .i64 names, .int .i64 limit, .int .i64 window, .slice A0 ls.length c0, .slice A1 ds.length c1] 48) := ⟨_, rfl⟩
    have b0 : Blk W0 w.heap.size 48 #[.int .i64 names, .int .i64 limit, .int .i64 window, .slice A0 ls.length c0, .slice A1 ds.length c1] := by rw [hW0]; exact blk_new _ _ _
    rw [← hW0] at hL
    go_enter Try.func36, Try.ntmps36
    go_wp2
    rw [← hW0]
    clear hW0
    have hl0 := Kd.C_below hl hL
    have hd0 := Kd.C_below hd hL
    have e0 := ext_cell (b0.cell 0 rfl)
    have e1 := ext_cell (b0.cell 1 rfl)
    have e2 := ext_cell (b0.cell 2 rfl)
    have e3 := ext_cell (b0.cell 3 rfl)
    have e4 := ext_cell (b0.cell 4 rfl)
    refine wp_region_ext (by kernel_rfl) (by kernel_rfl) ?_
    repeat (gi_big_quiet_step ((rename_i x; first
      | exact callsIn_wide.2 ((in_any cents 0 100000000 x.1).mono fun e w' h => ⟨h.1, x, h.2⟩)
      | exact callsIn_wide.2 ((day_any names limit window A0 c0 ls A1 c1 ds name day (inB cents 0 100000000) x.1 (Kd.C_below hl0 x.2) hlc (Kd.C_below hd0 x.2)).mono fun e w' h => ⟨h.1.trans (by rw [← HT.out]), ext_go h.2⟩))))
    refine wpQuietIn_nil ?_
    rintro W2 ⟨⟨_, hx⟩, rfl⟩
    go_wp2
    go_ret2
    exact ⟨rfl, hL.trans (hx.mono hL.size)⟩
end
end Go.Proofs.Ytkdlbocjgbmbdaa.Print

namespace Go.Proofs.Ytkdlbocjgbmbdaa.Print
open Go.RowKit Go.Shelf Go.Proofs.YtkdlbocjgbmbdaaW.PrintWords
set_option linter.unusedVariables false
attribute [local go_sem] Oper.semAt_some
attribute [local go_sem] wide_fn wide_asked
def badAt (all : Bool) (names limit window : Int) (ls : List S84) (ds : List S61) (i : Nat) : Bool := !keptI (tiesL all ls) names limit window (ds.take (i + 1))
def breach1 (all : Bool) (names limit window : Int) (ls : List S84) (ds : List S61) : Int := firstI (badAt all names limit window ls ds) ds.length
set_option maxRecDepth 100000 in
set_option maxHeartbeats 8000000 in
theorem breach1_any (names limit window : Int) (A0 : Option Addr) (c0 : Nat) (ls : List S84) (A1 : Option Addr) (c1 : Nat) (ds : List S61) (all : Bool) (Bx : Nat) (w : World)
    (hl : Kd.C k84 w A0 ls.length ls) (hd : Kd.C k61 w A1 ds.length ds) (hdc : ds.length ≤ c1) (hok : TillOk names limit window ls ds)
    (b0 : Blk w Bx 48 #[.int .i64 names, .int .i64 limit, .int .i64 window, .slice A0 ls.length c0, .slice A1 ds.length c1]) :
    Calls Try.prog 101 #[.bool all, .pointer (some ⟨Bx, 0, none⟩)] w fun e w' =>
      e = .returned (.int .i64 (breach1 all names limit window ls ds)) ∧ Below w.heap.size w w' := by
  obtain ⟨R, hR⟩ : ∃ R, R = breach1 all names limit window ls ds := ⟨_, rfl⟩
  rw [← hR]
  have HR : Hid (R = breach1 all names limit window ls ds) := hR
  clear hR
  have hmax := Kd.C_max hd
  have hfew := hok.fewd
  have e0 := b0.cell 0 rfl
  have e1 := b0.cell 1 rfl
  have e2 := b0.cell 2 rfl
  have e3 := b0.cell 3 rfl
  have e4 := b0.cell 4 rfl
  have HI : ∀ ys : List Bool, Hid (ys.length = 64 → (Try.prog.info? 134).map (·.size) = some (boolCells ys).size) := fun ys h => by rw [boolCells_size, h]; exact info134
  have h64 : Hid (zeros64.length = 64) := by show zeros64.length = 64; simp [zeros64]
  go_enter Try.func101, Try.ntmps101
  go_wp2_with (first
    | (go_at_call 87; refine (tiesOf_any names limit window A0 c0 ls (.slice A1 ds.length c1) all _ hl hok.links hok.n8).mono ?_; rintro e W3 ⟨rfl, hB3⟩; have b3 := b0.below hB3 b0.lt)
    | ((with_reducible refine gate_dst (N := 4) rfl ?_); refine box_event rfl (N := 4) rfl (cs := boolCells zeros64) (t := 134) (alloc134 _ _ rfl _) ?_; intro g4 hg4 W4 hb4 hB4; have b4 := b3.below hB4 b3.lt; have z4 : Blk W4 g4 134 (boolCells zeros64) := hb4; have hg4' : w.heap.size ≤ g4 := (by rw [hg4]; exact hB3.size); have BB4 := hB3.trans (hB4.mono hB3.size); have hbx := b0.lt; clear hb4 hg4)
    | ((with_reducible refine gate_store (t := 134) (p := 4) rfl ?_); refine ev_store_row rfl 134 _ _ rfl rfl g4 (boolCells (tiesL all ls)) rfl rfl (t := 134) (old := boolCells zeros64) z4 ((HI _).out (tiesL_len _ _)) (by rw [boolCells_size, boolCells_size, h64.out, tiesL_len]) (boolCells_one _) ?_; intro W5 hb5 hg5; have b5 := b4.grown hg5 (by simp; omega); have BB5 := BB4.grown hg5 (by have := BB4.size; omega) (fun j e => by cases e; omega); have f4 := b5.cell 4 rfl))
  clear e0 e1 e2 e3 e4
  go_loopw [12] (fun vi wr => ∃ k : Nat, k ≤ ds.length ∧ vi = .int .i64 k ∧ Hid (∀ j, j < k → badAt all names limit window ls ds j = false) ∧ Blk wr Bx 48 #[.int .i64 names, .int .i64 limit, .int .i64 window, .slice A0 ls.length c0, .slice A1 ds.length c1] ∧ Blk wr g4 134 (boolCells (tiesL all ls)) ∧ Below w.heap.size w wr) (fun vi _ => ds.length - (intOf vi).toNat)
  · exact ⟨0, by omega, rfl, fun j hj => by omega, b5, hb5, BB5⟩
  · obtain ⟨k, hk, rfl, HN, q0, q4, qB⟩ := hrel
    by_cases hlt : k < ds.length
    · have hqd := Kd.C_below hd qB
      have htk := kC_take hqd (k + 1) (by omega)
      have htl : (ds.take (k + 1)).length = k + 1 := by simp; omega
      have e0 := ext_cell (q0.cell 0 rfl)
      have e1 := ext_cell (q0.cell 1 rfl)
      have e2 := ext_cell (q0.cell 2 rfl)
      have e3 := ext_cell (q0.cell 3 rfl)
      have e4 := ext_cell (q0.cell 4 rfl)
      have hwr : IntKind.i64.wrap ((k : Int) + 1) = (k : Int) + 1 := IntWalk.i64_in _ (by omega)
      have HKK : Hid (∀ x : Ext wr, Calls Try.prog 92 #[.agg #[.int .i64 names, .int .i64 limit, .int .i64 window, .slice A0 ls.length c0, .slice A1 ds.length c1], .slice A1 (k + 1) c1, .agg (boolCells (tiesL all ls))] x.1 fun e w' => e = .returned (.bool (keptI (tiesL all ls) names limit window (ds.take (k + 1)))) ∧ Below x.1.heap.size x.1 w') := fun x => by
        have := kept_any names limit window (.slice A0 ls.length c0) (.slice A1 ds.length c1) A1 c1 (ds.take (k + 1)) (tiesL all ls) x.1 (by rw [htl]; exact Kd.C_below htk x.2) (tiesL_len _ _) hok.w1 hok.w2 (fun d h => hok.dues d (List.mem_of_mem_take h)) (by have := hok.n1; omega) hok.n8 (by rw [htl]; omega)
        rw [htl] at this
        exact this
      clear htl
      cases hbad : keptI (tiesL all ls) names limit window (ds.take (k + 1)) with
      | true =>
        go_wp2
        refine wp_region_ext (by kernel_rfl) (by kernel_rfl) ?_
        repeat (first
          | (gi_big_quiet_want; refine quietIn_load_row 134 _ rfl g4 rfl q4 Try.underlying134 rfl ((HI _).out (tiesL_len _ _)) ?_; go_big_quiet_on; simp only [Act.put, List.setIfInBounds_toArray, List.set_cons_succ, List.set_cons_zero])
          | gi_big_quiet_step ((rename_i x; exact callsIn_wide.2 ((HKK.out x).mono fun e w' h => ⟨h.1.trans (by rw [hbad]), ext_go h.2⟩))))
        refine wpQuietIn_nil ?_
        rintro W2 ⟨⟨_, hx⟩, rfl⟩
        go_wp2
        refine ⟨⟨k + 1, by omega, by push_cast; rfl, fun j hj => ?_, q0.below hx q0.lt, q4.below hx q4.lt, qB.trans (hx.mono qB.size)⟩, by simp [intOf]; omega⟩
        by_cases hjk : j = k
        · subst hjk
          rw [badAt, hbad]; rfl
        · exact HN.out j (by omega)
      | false =>
        go_wp2
        refine wp_region_ext (by kernel_rfl) (by kernel_rfl) ?_
        repeat (first
          | (gi_big_quiet_want; refine quietIn_load_row 134 _ rfl g4 rfl q4 Try.underlying134 rfl ((HI _).out (tiesL_len _ _)) ?_; go_big_quiet_on; simp only [Act.put, List.setIfInBounds_toArray, List.set_cons_succ, List.set_cons_zero])
          | gi_big_quiet_step ((rename_i x; exact callsIn_wide.2 ((HKK.out x).mono fun e w' h => ⟨h.1.trans (by rw [hbad]), ext_go h.2⟩))))
        refine wpQuietIn_nil ?_
        rintro W2 ⟨⟨_, hx⟩, rfl⟩
        go_wp2
        go_ret
        exact ⟨by rw [HR.out, breach1, firstI_yes _ k (by rw [badAt, hbad]; rfl) HN.out _ hlt]; rfl, qB.trans (hx.mono qB.size)⟩
    · obtain hkk : k = ds.length := by omega
      have hlt' : ¬ (k : Int) < (ds.length : Int) := by omega
      have HE : Hid (R = -1) := by
        show R = -1
        rw [HR.out, breach1, ← hkk, firstI_no _ _ HN.out]
      clear hkk
      go_wp2
      go_ret
      exact ⟨by rw [HE.out]; rfl, qB⟩
def breachR (names limit window : Int) (ls : List S84) (ds : List S61) : Int × Int × Int :=
  if tillE names limit window ls ds ≠ 0 then (0, 0, tillE names limit window ls ds) else (breach1 true names limit window ls ds, breach1 false names limit window ls ds, 0)
set_option maxRecDepth 100000 in
set_option maxHeartbeats 8000000 in
theorem breach_any (names limit window : Int) (A0 : Option Addr) (c0 : Nat) (ls : List S84) (A1 : Option Addr) (c1 : Nat) (ds : List S61) (w : World)
    (hl : Kd.C k84 w A0 ls.length ls) (hlc : ls.length ≤ c0) (hd : Kd.C k61 w A1 ds.length ds) (hdc : ds.length ≤ c1) :
    Calls Try.prog 51 #[.agg #[.int .i64 names, .int .i64 limit, .int .i64 window, .slice A0 ls.length c0, .slice A1 ds.length c1]] w fun e w' =>
      e = .returned (.tuple #[.int .i64 (breachR names limit window ls ds).1, .int .i64 (breachR names limit window ls ds).2.1, .int .i64 (breachR names limit window ls ds).2.2]) ∧ Below w.heap.size w w' := by
  obtain ⟨t, ht⟩ : ∃ t, t = tillE names limit window ls ds := ⟨_, rfl⟩
  obtain ⟨r, hr⟩ : ∃ r, r = breachR names limit window ls ds := ⟨_, rfl⟩
  have HT : Hid (t = tillE names limit window ls ds) := ht
  have hL : Below w.heap.size w (w.alloc (.cells #[.int .i64 names, .int .i64 limit, .int .i64 window, .slice A0 ls.length c0, .slice A1 ds.length c1] 48)) := below_alloc (Below.refl _ _) _
  rw [← hr]
  by_cases h0 : t = 0
  · have hok : TillOk names limit window ls ds := tillE_ok (by rw [← ht]; exact h0)
    rw [breachR, ← ht, if_neg (by simpa using h0)] at hr
    have HR : Hid (r = (breach1 true names limit window ls ds, breach1 false names limit window ls ds, 0)) := hr
    clear ht hr
    go_enter Try.func51, Try.ntmps51
    go_wp2_with (first
      | (go_at_call 73; refine (check73_any names limit window A0 c0 ls A1 c1 ds _ (Kd.C_below hl hL) hlc (Kd.C_below hd hL)).mono ?_; rintro e w1 ⟨rfl, hB⟩; rw [← HT.out, h0]; have b0 : Blk w1 w.heap.size 48 #[.int .i64 names, .int .i64 limit, .int .i64 window, .slice A0 ls.length c0, .slice A1 ds.length c1] := (blk_new w 48 _).below hB (by simp); have hB1 : Below w.heap.size w w1 := hL.trans (hB.mono (by simp)); have hl1 := Kd.C_below hl hB1; have hd1 := Kd.C_below hd hB1)
      | (go_at_call_of 101 (Value.bool true); refine (breach1_any names limit window A0 c0 ls A1 c1 ds true w.heap.size _ hl1 hd1 hdc hok b0).mono ?_; rintro e w2 ⟨rfl, hB2⟩; have b2 := b0.below hB2 b0.lt; have hl2 := Kd.C_below hl1 hB2; have hd2 := Kd.C_below hd1 hB2)
      | (go_at_call_of 101 (Value.bool false); refine (breach1_any names limit window A0 c0 ls A1 c1 ds false w.heap.size _ hl2 hd2 hdc hok b2).mono ?_; rintro e w3 ⟨rfl, hB3⟩))
    go_ret3
    exact ⟨by rw [HR.out]; rfl, (hB1.trans (hB2.mono hB1.size)).trans (hB3.mono (Nat.le_trans hB1.size hB2.size))⟩
  · rw [breachR, ← ht, if_pos h0] at hr
    subst hr
    clear ht
    go_enter Try.func51, Try.ntmps51
    go_wp2_with (go_at_call 73; refine (check73_any names limit window A0 c0 ls A1 c1 ds _ (Kd.C_below hl hL) hlc (Kd.C_below hd hL)).mono ?_; rintro e w1 ⟨rfl, hB⟩; rw [← HT.out])
    go_ret3
    exact ⟨rfl, hL.trans (hB.mono (by simp))⟩
end Go.Proofs.Ytkdlbocjgbmbdaa.Print

namespace Go.Proofs.Ytkdlbocjgbmbdaa.Print
open Go.RowKit Go.Shelf Go.Proofs.YtkdlbocjgbmbdaaW.PrintWords
set_option linter.unusedVariables false
attribute [local go_sem] Oper.semAt_some
attribute [local go_sem] wide_fn wide_asked
theorem value1_ok (gx ge : Nat) (u : FrameMode) (w : World) (he : Blk w ge 38 #[.int .i64 0]) :
    CallsD Try.prog 80 #[.pointer (some ⟨ge, 0, none⟩), .pointer (some ⟨gx, 0, none⟩)] u w fun e u' w' => u' = u ∧ (e = .returned (.tuple #[]) ∧ w' = w) := by
  have c0 := he.cell 0 rfl
  go_enter_d Try.func80, Try.ntmps80
  go_wp2
  go_end0
  exact ⟨rfl, rfl⟩
theorem value1_bad (gx ge : Nat) (t a b : Int) (ht : t ≠ 0) (u : FrameMode) (w : World) (hx : Blk w gx 24 #[.int .i64 a, .int .i64 b]) (he : Blk w ge 38 #[.int .i64 t]) :
    CallsD Try.prog 80 #[.pointer (some ⟨ge, 0, none⟩), .pointer (some ⟨gx, 0, none⟩)] u w fun e u' w' => u' = u ∧ (e = .returned (.tuple #[]) ∧ Blk w' gx 24 #[.int .i64 0, .int .i64 0] ∧ w.grownBy w' (some gx)) := by
  have c0 := he.cell 0 rfl
  have d0 := hx.cell 0 rfl
  have f0 := hx.frozen 0
  have hx1 := hx.set 0 (.int .i64 0)
  have d1 := hx1.cell 1 rfl
  have f1 := hx1.frozen 1
  have hx2 := hx1.set 1 (.int .i64 0)
  go_enter_d Try.func80, Try.ntmps80
  go_wp2
  go_end0
  refine ⟨rfl, hx2, ?_⟩
  exact ⟨rfl, rfl, rfl, by simp, fun k _ hk => (Below.heap_setCell _ _ _ k (fun e => hk (by rw [e]))).trans (Below.heap_setCell _ _ _ k (fun e => hk (by rw [e])))⟩
end Go.Proofs.Ytkdlbocjgbmbdaa.Print

namespace Go.Proofs.Ytkdlbocjgbmbdaa.Print
open Go.RowKit Go.Shelf Go.Proofs.YtkdlbocjgbmbdaaW.PrintWords
set_option linter.unusedVariables false
attribute [local go_sem] Oper.semAt_some
attribute [local go_sem] wide_fn wide_asked
def fixE (i : Nat) (prev f : S26) : Int := if inB f.f0 0 4000 = false then 1 else if inB f.f1 0 100000000 = false then 1 else if 0 < i ∧ f.f0 ≤ prev.f0 then 5 else 0
def z26' : S26 := ⟨0, 0⟩
def fixesE (fs : List S26) : Int := firstE (fun k => fixE k (fs.getD (k - 1) z26') (fs.getD k z26')) fs.length
def worth (k c share : Int) : Int := Int.tdiv (k * c * share) 1000000
def valF (day k0 k1 share : Int) (s : Int × Int × Int) (f : S26) : Int × Int × Int := if f.f0 ≤ day then (worth k0 f.f1 share, worth k1 f.f1 share, 0) else s
def valueE (fs : List S26) (day k0 k1 share : Int) : Int :=
  if (20 : Int) < fs.length then 6 else if fixesE fs ≠ 0 then fixesE fs else if inB day 0 4000 = false then 1 else if inB k0 0 1000000 = false then 1 else if inB k1 0 1000000 = false then 1
  else if k1 < k0 then 5 else if inB share 0 1000 = false then 1 else (fs.foldl (valF day k0 k1 share) (0, 0, 3)).2.2
def valueR (fs : List S26) (day k0 k1 share : Int) : Int × Int × Int :=
  if valueE fs day k0 k1 share ≠ 0 then (0, 0, valueE fs day k0 k1 share) else fs.foldl (valF day k0 k1 share) (0, 0, 3)
theorem results23 : Try.f23.results = #[.cell 8 24, .cell 9 38] := by kernel_rfl
theorem value_results {tmps : Array Value} {W : World} (gx ge : Nat) (t a b : Int) (hgx : tmps.getD 8 undef = .pointer (some ⟨gx, 0, none⟩)) (hge : tmps.getD 9 undef = .pointer (some ⟨ge, 0, none⟩)) (hx : Blk W gx 24 #[.int .i64 a, .int .i64 b]) (he : Blk W ge 38 #[.int .i64 t]) :
    (results Try.f23 tmps).run Try.prog W = .ok (.tuple #[.agg #[.int .i64 a, .int .i64 b], .int .i64 t]) W := by
  have hgx' : tmps[8]?.getD undef = .pointer (some ⟨gx, 0, none⟩) := by simpa using hgx
  have hge' : tmps[9]?.getD undef = .pointer (some ⟨ge, 0, none⟩) := by simpa using hge
  have c0 := he.cell 0 rfl
  have hlv : (loadVar 38 ⟨ge, 0, none⟩).run Try.prog W = .ok (.int .i64 t) W := by
    have := Try.underlying38
    simp [go_sem, c0]
  simp [results, results23, hgx', hge', asAddr, run_loadVar_row W gx 24 24 _ (0, 0) _ hx Try.underlying24 rfl (by kernel_rfl), hlv]
theorem value_leave {tmps : Array Value} {R : Ending → World → Prop} {W : World} (gx ge : Nat) (t a b : Int) (hgx : tmps.getD 8 undef = .pointer (some ⟨gx, 0, none⟩)) (hge : tmps.getD 9 undef = .pointer (some ⟨ge, 0, none⟩)) (hx : Blk W gx 24 #[.int .i64 a, .int .i64 b]) (he : Blk W ge 38 #[.int .i64 t]) (hne : gx ≠ ge)
    (h0 : t = 0 → R (.returned (.tuple #[.agg #[.int .i64 a, .int .i64 b], .int .i64 0])) W) (h1 : t ≠ 0 → ∀ W', W.grownBy W' (some gx) → R (.returned (.tuple #[.agg #[.int .i64 0, .int .i64 0], .int .i64 t])) W') :
    Leaves Try.prog Try.f23 tmps R [{ target := .fn (.func 80) #[.pointer (some ⟨ge, 0, none⟩), .pointer (some ⟨gx, 0, none⟩)], args := #[] }] .returning W := by
  by_cases ht : t = 0
  · subst ht
    refine leaves_cons (f := 80) (args := #[.pointer (some ⟨ge, 0, none⟩), .pointer (some ⟨gx, 0, none⟩)]) (by simp) (by simp [go_sem]) ?_
    refine (value1_ok gx ge .returning W he).mono ?_
    rintro e u' w'' ⟨rfl, rfl, rfl⟩
    exact ⟨_, value_results gx ge 0 a b hgx hge hx he, h0 rfl⟩
  · refine leaves_cons (f := 80) (args := #[.pointer (some ⟨ge, 0, none⟩), .pointer (some ⟨gx, 0, none⟩)]) (by simp) (by simp [go_sem]) ?_
    refine (value1_bad gx ge t a b ht .returning W hx he).mono ?_
    rintro e u' w'' ⟨rfl, rfl, hx', hg⟩
    exact ⟨_, value_results gx ge t 0 0 hgx hge hx' (he.grown hg (by simpa using fun h => hne h.symm)), h1 ht _ hg⟩
set_option maxRecDepth 100000 in
set_option maxHeartbeats 4000000 in
theorem value_long (A : Option Addr) (c : Nat) (fs : List S26) (day k0 k1 share : Int) (w : World) (h : (20 : Int) < fs.length) :
    Calls Try.prog 23 #[.slice A fs.length c, .int .i64 day, .agg #[.int .i64 k0, .int .i64 k1], .int .i64 share] w fun e w' =>
      e = .returned (.tuple #[.agg #[.int .i64 0, .int .i64 0], .int .i64 6]) ∧ Below w.heap.size w w' := by
  have hmf : ∀ (fn : Fn) (first cap : Array Value) (w : World), (Instr.makeFunc fn first cap).run Try.prog w = .ok (.func fn first cap) w := fun _ _ _ _ => rfl
  go_enter_defers Try.func23, Try.ntmps23
  go_wp2
  refine value_leave (w.heap.size + 1) (w.heap.size + 1 + 1) 6 0 0 rfl rfl ((blk_new' (by simp)).alloc _) (blk_new' (by simp)) (by omega) (fun h => by omega) (fun _ W' hg => ⟨rfl, ?_⟩)
  refine Below.grown ?_ hg (by simp; omega) (fun j e => by cases e; omega)
  repeat (first | exact Below.refl _ _ | refine below_alloc ?_ _)
end Go.Proofs.Ytkdlbocjgbmbdaa.Print

namespace Go.Proofs.Ytkdlbocjgbmbdaa.Print
open Go.RowKit Go.Shelf Go.Proofs.YtkdlbocjgbmbdaaW.PrintWords
set_option linter.unusedVariables false
attribute [local go_sem] Oper.semAt_some
attribute [local go_sem] wide_fn wide_asked
theorem rd_T26_at (fs : List S26) (k : Nat) (h : k < fs.length) : rd_T26 fs (k : Int) = fs[k] := by
  simp [rd_T26, List.getD_eq_getElem?_getD, List.getElem?_eq_getElem h]
set_option maxRecDepth 100000 in
set_option maxHeartbeats 8000000 in
theorem value_main (A : Option Addr) (c : Nat) (fs : List S26) (day k0 k1 share : Int) (w : World) (hC : Kd.C k26 w A fs.length fs) (h : (fs.length : Int) ≤ 20) (R : Int × Int × Int) (HR : Hid (R = valueR fs day k0 k1 share)) :
    Calls Try.prog 23 #[.slice A fs.length c, .int .i64 day, .agg #[.int .i64 k0, .int .i64 k1], .int .i64 share] w fun e w' =>
      e = .returned (.tuple #[.agg #[.int .i64 R.1, .int .i64 R.2.1], .int .i64 R.2.2]) ∧ Below w.heap.size w w' := by
  have hmf : ∀ (fn : Fn) (first cap : Array Value) (w : World), (Instr.makeFunc fn first cap).run Try.prog w = .ok (.func fn first cap) w := fun _ _ _ _ => rfl
  have hmax := Kd.C_max hC
  go_enter_defers Try.func23, Try.ntmps23
  go_wp2
  obtain ⟨W0, hW0⟩ : ∃ W0, ((w.alloc (.cells #[.int .i64 k0, .int .i64 k1] 24)).alloc (.cells #[.int .i64 0, .int .i64 0] 24)).alloc (.cells #[.int .i64 0] 38) = W0 := ⟨_, rfl⟩
  have b6 : Blk W0 w.heap.size 24 #[.int .i64 k0, .int .i64 k1] := by rw [← hW0]; exact ((blk_new w 24 _).alloc _).alloc _
  have b8 : Blk W0 (w.heap.size + 1) 24 #[.int .i64 0, .int .i64 0] := by rw [← hW0]; exact (blk_new' (by simp)).alloc _
  have b9 : Blk W0 (w.heap.size + 1 + 1) 38 #[.int .i64 0] := by rw [← hW0]; exact blk_new' (by simp)
  have B0 : Below w.heap.size w W0 := by rw [← hW0]; repeat (first | exact Below.refl _ _ | refine below_alloc ?_ _)
  rw [hW0]
  clear hW0 hmf
  generalize hge : w.heap.size + 1 + 1 = ge at *
  generalize hgx : w.heap.size + 1 = gx at *
  have hne1 : gx ≠ ge := by omega
  have hne2 : ge ≠ gx := by omega
  have hbx : w.heap.size < gx := by omega
  have hbe : w.heap.size < ge := by omega
  clear hge hgx
  go_loopw [21] (fun vi wr => ∃ k : Nat, k ≤ fs.length ∧ vi = .int .i64 k ∧ Hid (∀ j, j < k → fixE j (fs.getD (j - 1) z26') (fs.getD j z26') = 0) ∧ Blk wr w.heap.size 24 #[.int .i64 k0, .int .i64 k1] ∧ Blk wr gx 24 #[.int .i64 0, .int .i64 0] ∧ Blk wr ge 38 #[.int .i64 0] ∧ Below w.heap.size w wr) (fun vi _ => fs.length - (intOf vi).toNat)
  · exact ⟨0, by omega, rfl, fun j hj => by omega, b6, b8, b9, B0⟩
  · clear b6 b8 b9 B0
    obtain ⟨q, hq, rfl, hno, q6, q8, q9, qB⟩ := hrel
    have hcd := Kd.C_below hC qB
    by_cases hlt : q < fs.length
    · obtain ⟨ad, hA, p0, p1⟩ := at_T26 hcd q (by omega) (by omega)
      obtain ⟨ad', hA', r0, _⟩ := at_T26 hcd ((q - 1 : Nat) : Int) (by omega) (by omega)
      subst hA
      obtain rfl : ad = ad' := by injection hA'
      clear hA'
      simp only [Int.toNat_natCast] at p0 p1 r0
      rw [rd_T26_at fs q hlt] at p0 p1
      rw [rd_T26_at fs (q - 1) (by omega)] at r0
      obtain ⟨d, hd'⟩ : ∃ d, d = fs[q] := ⟨_, rfl⟩
      obtain ⟨pd, hp'⟩ : ∃ pd, pd = fs[q - 1] := ⟨_, rfl⟩
      rw [← hd'] at p0 p1
      rw [← hp'] at r0
      have hg0 : fs.getD q z26' = d := by rw [hd']; simp [List.getD_eq_getElem?_getD, List.getElem?_eq_getElem hlt]
      have hg1 : fs.getD (q - 1) z26' = pd := by rw [hp']; simp [List.getD_eq_getElem?_getD, List.getElem?_eq_getElem (show q - 1 < fs.length by omega)]
      have HG : Hid (fixE q (fs.getD (q - 1) z26') (fs.getD q z26') = fixE q pd d) := by
        show fixE q (fs.getD (q - 1) z26') (fs.getD q z26') = fixE q pd d
        rw [hg0, hg1]
      clear hg0 hg1 hd' hp'
      have hend : ∀ e : Int, fixE q pd d = e → e ≠ 0 → Hid (R = (0, 0, e)) := fun e he hne => by
        have h1 : fixesE fs = e := firstE_yes (fun k => fixE k (fs.getD (k - 1) z26') (fs.getD k z26')) q e (HG.out.trans he) hne hno.out _ hlt
        have h2 : valueE fs day k0 k1 share = e := by rw [valueE, if_neg (by omega), h1, if_pos hne]
        show R = _
        rw [HR.out, valueR, h2, if_pos hne]
      have v8 := q8.alloc (.cells #[.int .i64 d.f0, .int .i64 d.f1] 26)
      have v9 := q9.alloc (.cells #[.int .i64 d.f0, .int .i64 d.f1] 26)
      have vB := qB.alloc (by have := qB.size; omega) (.cells #[.int .i64 d.f0, .int .i64 d.f1] 26)
      cases g1 : inB d.f0 0 4000 with
      | false =>
        have HR2 := hend 1 (by rw [fixE, if_pos g1]) (by omega)
        clear hend
        have x1 := v8.set 0 (.int .i64 0)
        have x2 := x1.set 1 (.int .i64 0)
        have y1 := (v9.far (p := ⟨gx, 0, none⟩) (by simpa using hne2) (.int .i64 0)).far (p := ⟨gx, 1, none⟩) (by simpa using hne2) (.int .i64 0)
        have u0 := v8.cell 0 rfl
        have u1 := v8.cell 1 rfl
        have u2 := v8.frozen 0
        have u3 := x1.cell 1 rfl
        have u4 := x1.frozen 1
        have u5 := y1.cell 0 rfl
        have u6 := y1.frozen 0
        go_wp2_with (go_at_call 81; refine (in_any _ _ _ _).mono ?_; rintro e w' ⟨rfl, rfl⟩)
        refine value_leave gx ge 1 0 0 rfl rfl (x2.far (p := ⟨ge, 0, none⟩) (by simpa using hne1) _) (y1.set 0 _) hne1 (fun h => by omega) (fun _ W' hg => ⟨by rw [HR2.out], ?_⟩)
        have BD := ((vB.setCell (p := ⟨gx, 0, none⟩) (by simp; omega) (.int .i64 0)).setCell (p := ⟨gx, 1, none⟩) (by simp; omega) (.int .i64 0)).setCell (p := ⟨ge, 0, none⟩) (by simp; omega) (.int .i64 1)
        exact BD.grown hg BD.size (fun j e => by cases e; omega)
      | true =>
        cases g2 : inB d.f1 0 100000000 with
        | false =>
          have HR2 := hend 1 (by rw [fixE, g1, if_neg (by simp), if_pos g2]) (by omega)
          clear hend
          have x1 := v8.set 0 (.int .i64 0)
          have x2 := x1.set 1 (.int .i64 0)
          have y1 := (v9.far (p := ⟨gx, 0, none⟩) (by simpa using hne2) (.int .i64 0)).far (p := ⟨gx, 1, none⟩) (by simpa using hne2) (.int .i64 0)
          have u0 := v8.cell 0 rfl
          have u1 := v8.cell 1 rfl
          have u2 := v8.frozen 0
          have u3 := x1.cell 1 rfl
          have u4 := x1.frozen 1
          have u5 := y1.cell 0 rfl
          have u6 := y1.frozen 0
          go_wp2_with (go_at_call 81; refine (in_any _ _ _ _).mono ?_; rintro e w' ⟨rfl, rfl⟩)
          refine value_leave gx ge 1 0 0 rfl rfl (x2.far (p := ⟨ge, 0, none⟩) (by simpa using hne1) _) (y1.set 0 _) hne1 (fun h => by omega) (fun _ W' hg => ⟨by rw [HR2.out], ?_⟩)
          have BD := ((vB.setCell (p := ⟨gx, 0, none⟩) (by simp; omega) (.int .i64 0)).setCell (p := ⟨gx, 1, none⟩) (by simp; omega) (.int .i64 0)).setCell (p := ⟨ge, 0, none⟩) (by simp; omega) (.int .i64 1)
          exact BD.grown hg BD.size (fun j e => by cases e; omega)
        | true =>
          by_cases hq0 : 0 < q
          · have hz : (0 : Int) < q := by omega
            have hw1 : IntKind.i64.wrap ((q : Int) - 1) = (q : Int) - 1 := IntWalk.i64_in _ (by omega)
            have hw2 : ((q : Int) - 1).toNat = q - 1 := by omega
            have hw3 : (1 : Int) ≤ (q : Int) := by omega
            have hw4 : (q : Int) - 1 < (fs.length : Int) := by omega
            have hw5 : ¬ (q : Int) < 1 := by omega
            have r1 := pw_cell_below ((Below.refl _ wr).alloc (Nat.le_refl _) (.cells #[.int .i64 d.f0, .int .i64 d.f1] 26)) r0
            by_cases g3 : d.f0 ≤ pd.f0
            · have HR2 := hend 5 (by rw [fixE, g1, if_neg (by simp), g2, if_neg (by simp), if_pos ⟨hq0, g3⟩]) (by omega)
              clear hend
              go_wp2_with (go_at_call 81; refine (in_any _ _ _ _).mono ?_; rintro e w' ⟨rfl, rfl⟩)
              go_quiet (fail)
              replace v8 := v8.drewN nq
              replace v9 := v9.drewN nq
              replace vB := below_drewN' vB nq
              have x1 := v8.set 0 (.int .i64 0)
              have x2 := x1.set 1 (.int .i64 0)
              have y1 := (v9.far (p := ⟨gx, 0, none⟩) (by simpa using hne2) (.int .i64 0)).far (p := ⟨gx, 1, none⟩) (by simpa using hne2) (.int .i64 0)
              have u0 := v8.cell 0 rfl
              have u1 := v8.cell 1 rfl
              have u2 := v8.frozen 0
              have u3 := x1.cell 1 rfl
              have u4 := x1.frozen 1
              have u5 := y1.cell 0 rfl
              have u6 := y1.frozen 0
              go_wp2
              refine value_leave gx ge 5 0 0 rfl rfl (x2.far (p := ⟨ge, 0, none⟩) (by simpa using hne1) _) (y1.set 0 _) hne1 (fun h => by omega) (fun _ W' hg => ⟨by rw [HR2.out], ?_⟩)
              have BD := ((vB.setCell (p := ⟨gx, 0, none⟩) (by simp; omega) (.int .i64 0)).setCell (p := ⟨gx, 1, none⟩) (by simp; omega) (.int .i64 0)).setCell (p := ⟨ge, 0, none⟩) (by simp; omega) (.int .i64 5)
              exact BD.grown hg BD.size (fun j e => by cases e; omega)
            · have hg3 : ¬ (0 < q ∧ d.f0 ≤ pd.f0) := fun h => g3 h.2
              have hg5 : decide (d.f0 ≤ pd.f0) = false := by simpa using g3
              have HZ : Hid (fixE q (fs.getD (q - 1) z26') (fs.getD q z26') = 0) := HG.out.trans (by rw [fixE, g1, if_neg (by simp), g2, if_neg (by simp), if_neg hg3])
              clear hend
              go_wp2_with (go_at_call 81; refine (in_any _ _ _ _).mono ?_; rintro e w' ⟨rfl, rfl⟩)
              go_quiet (fail)
              replace v8 := v8.drewN nq
              replace v9 := v9.drewN nq
              replace vB := below_drewN' vB nq
              go_wp2
              refine ⟨⟨q + 1, by omega, by push_cast; rfl, fun j hj => ?_, (q6.alloc _).drewN nq, v8, v9, vB⟩, by simp [intOf]; omega⟩
              by_cases hjq : j = q
              · subst hjq; exact HZ.out
              · exact hno.out j (by omega)
          · have hz : ¬ (0 : Int) < q := by omega
            have hg3 : ¬ (0 < q ∧ d.f0 ≤ pd.f0) := fun h => hq0 h.1
            have HZ : Hid (fixE q (fs.getD (q - 1) z26') (fs.getD q z26') = 0) := HG.out.trans (by rw [fixE, g1, if_neg (by simp), g2, if_neg (by simp), if_neg hg3])
            clear hend
            go_wp2_with (go_at_call 81; refine (in_any _ _ _ _).mono ?_; rintro e w' ⟨rfl, rfl⟩)
            go_quiet (fail)
            replace v8 := v8.drewN nq
            replace v9 := v9.drewN nq
            replace vB := below_drewN' vB nq
            go_wp2
            refine ⟨⟨q + 1, by omega, by push_cast; rfl, fun j hj => ?_, (q6.alloc _).drewN nq, v8, v9, vB⟩, by simp [intOf]; omega⟩
            by_cases hjq : j = q
            · subst hjq; exact HZ.out
            · exact hno.out j (by omega)
    · have HE0 : fixesE fs = 0 := firstE_no _ _ (fun j hj => hno.out j (by omega))
      have HV : Hid (valueE fs day k0 k1 share = if inB day 0 4000 = false then 1 else if inB k0 0 1000000 = false then 1 else if inB k1 0 1000000 = false then 1 else if k1 < k0 then 5 else if inB share 0 1000 = false then 1 else (fs.foldl (valF day k0 k1 share) (0, 0, 3)).2.2) := by
        show _ = _
        rw [valueE, if_neg (by omega), HE0, if_neg (by simp)]
      have hend : ∀ e : Int, valueE fs day k0 k1 share = e → e ≠ 0 → Hid (R = (0, 0, e)) := fun e he hne => by
        show R = _
        rw [HR.out, valueR, he, if_pos hne]
      have hql : ¬ (q : Int) < (fs.length : Int) := by omega
      have c60 := q6.cell 0 rfl
      have c61 := q6.cell 1 rfl
      clear HE0
      cases g1 : inB day 0 4000 with
      | false =>
        have HR2 := hend 1 (by rw [HV.out, if_pos g1]) (by omega)
        clear hend
        clear HV
        have v8 := q8
        have v9 := q9
        have vB := qB
        have x1 := v8.set 0 (.int .i64 0)
        have x2 := x1.set 1 (.int .i64 0)
        have y1 := (v9.far (p := ⟨gx, 0, none⟩) (by simpa using hne2) (.int .i64 0)).far (p := ⟨gx, 1, none⟩) (by simpa using hne2) (.int .i64 0)
        have u0 := v8.cell 0 rfl
        have u1 := v8.cell 1 rfl
        have u2 := v8.frozen 0
        have u3 := x1.cell 1 rfl
        have u4 := x1.frozen 1
        have u5 := y1.cell 0 rfl
        have u6 := y1.frozen 0
        go_wp2_with (go_at_call 81; refine (in_any _ _ _ _).mono ?_; rintro e w' ⟨rfl, rfl⟩)
        refine value_leave gx ge 1 0 0 rfl rfl (x2.far (p := ⟨ge, 0, none⟩) (by simpa using hne1) _) (y1.set 0 _) hne1 (fun h => by omega) (fun _ W' hg => ⟨by rw [HR2.out], ?_⟩)
        have BD := ((vB.setCell (p := ⟨gx, 0, none⟩) (by simp; omega) (.int .i64 0)).setCell (p := ⟨gx, 1, none⟩) (by simp; omega) (.int .i64 0)).setCell (p := ⟨ge, 0, none⟩) (by simp; omega) (.int .i64 1)
        exact BD.grown hg BD.size (fun j e => by cases e; omega)
      | true =>
        cases g2 : inB k0 0 1000000 with
        | false =>
          have HR2 := hend 1 (by rw [HV.out, g1, if_neg (by simp), if_pos g2]) (by omega)
          clear hend
          clear HV
          have v8 := q8
          have v9 := q9
          have vB := qB
          have x1 := v8.set 0 (.int .i64 0)
          have x2 := x1.set 1 (.int .i64 0)
          have y1 := (v9.far (p := ⟨gx, 0, none⟩) (by simpa using hne2) (.int .i64 0)).far (p := ⟨gx, 1, none⟩) (by simpa using hne2) (.int .i64 0)
          have u0 := v8.cell 0 rfl
          have u1 := v8.cell 1 rfl
          have u2 := v8.frozen 0
          have u3 := x1.cell 1 rfl
          have u4 := x1.frozen 1
          have u5 := y1.cell 0 rfl
          have u6 := y1.frozen 0
          go_wp2_with (go_at_call 81; refine (in_any _ _ _ _).mono ?_; rintro e w' ⟨rfl, rfl⟩)
          refine value_leave gx ge 1 0 0 rfl rfl (x2.far (p := ⟨ge, 0, none⟩) (by simpa using hne1) _) (y1.set 0 _) hne1 (fun h => by omega) (fun _ W' hg => ⟨by rw [HR2.out], ?_⟩)
          have BD := ((vB.setCell (p := ⟨gx, 0, none⟩) (by simp; omega) (.int .i64 0)).setCell (p := ⟨gx, 1, none⟩) (by simp; omega) (.int .i64 0)).setCell (p := ⟨ge, 0, none⟩) (by simp; omega) (.int .i64 1)
          exact BD.grown hg BD.size (fun j e => by cases e; omega)
        | true =>
          cases g3 : inB k1 0 1000000 with
          | false =>
            have HR2 := hend 1 (by rw [HV.out, g1, if_neg (by simp), g2, if_neg (by simp), if_pos g3]) (by omega)
            clear hend
            clear HV
            have v8 := q8
            have v9 := q9
            have vB := qB
            have x1 := v8.set 0 (.int .i64 0)
            have x2 := x1.set 1 (.int .i64 0)
            have y1 := (v9.far (p := ⟨gx, 0, none⟩) (by simpa using hne2) (.int .i64 0)).far (p := ⟨gx, 1, none⟩) (by simpa using hne2) (.int .i64 0)
            have u0 := v8.cell 0 rfl
            have u1 := v8.cell 1 rfl
            have u2 := v8.frozen 0
            have u3 := x1.cell 1 rfl
            have u4 := x1.frozen 1
            have u5 := y1.cell 0 rfl
            have u6 := y1.frozen 0
            go_wp2_with (go_at_call 81; refine (in_any _ _ _ _).mono ?_; rintro e w' ⟨rfl, rfl⟩)
            refine value_leave gx ge 1 0 0 rfl rfl (x2.far (p := ⟨ge, 0, none⟩) (by simpa using hne1) _) (y1.set 0 _) hne1 (fun h => by omega) (fun _ W' hg => ⟨by rw [HR2.out], ?_⟩)
            have BD := ((vB.setCell (p := ⟨gx, 0, none⟩) (by simp; omega) (.int .i64 0)).setCell (p := ⟨gx, 1, none⟩) (by simp; omega) (.int .i64 0)).setCell (p := ⟨ge, 0, none⟩) (by simp; omega) (.int .i64 1)
            exact BD.grown hg BD.size (fun j e => by cases e; omega)
          | true =>
            by_cases g4 : k1 < k0
            · have HR2 := hend 5 (by rw [HV.out, g1, if_neg (by simp), g2, if_neg (by simp), g3, if_neg (by simp), if_pos g4]) (by omega)
              clear hend
              clear HV
              have v8 := q8
              have v9 := q9
              have vB := qB
              have x1 := v8.set 0 (.int .i64 0)
              have x2 := x1.set 1 (.int .i64 0)
              have y1 := (v9.far (p := ⟨gx, 0, none⟩) (by simpa using hne2) (.int .i64 0)).far (p := ⟨gx, 1, none⟩) (by simpa using hne2) (.int .i64 0)
              have u0 := v8.cell 0 rfl
              have u1 := v8.cell 1 rfl
              have u2 := v8.frozen 0
              have u3 := x1.cell 1 rfl
              have u4 := x1.frozen 1
              have u5 := y1.cell 0 rfl
              have u6 := y1.frozen 0
              go_wp2_with (go_at_call 81; refine (in_any _ _ _ _).mono ?_; rintro e w' ⟨rfl, rfl⟩)
              refine value_leave gx ge 5 0 0 rfl rfl (x2.far (p := ⟨ge, 0, none⟩) (by simpa using hne1) _) (y1.set 0 _) hne1 (fun h => by omega) (fun _ W' hg => ⟨by rw [HR2.out], ?_⟩)
              have BD := ((vB.setCell (p := ⟨gx, 0, none⟩) (by simp; omega) (.int .i64 0)).setCell (p := ⟨gx, 1, none⟩) (by simp; omega) (.int .i64 0)).setCell (p := ⟨ge, 0, none⟩) (by simp; omega) (.int .i64 5)
              exact BD.grown hg BD.size (fun j e => by cases e; omega)
            · cases g5 : inB share 0 1000 with
              | false =>
                have HR2 := hend 1 (by rw [HV.out, g1, if_neg (by simp), g2, if_neg (by simp), g3, if_neg (by simp), if_neg g4, if_pos g5]) (by omega)
                clear hend
                clear HV
                have v8 := q8
                have v9 := q9
                have vB := qB
                have x1 := v8.set 0 (.int .i64 0)
                have x2 := x1.set 1 (.int .i64 0)
                have y1 := (v9.far (p := ⟨gx, 0, none⟩) (by simpa using hne2) (.int .i64 0)).far (p := ⟨gx, 1, none⟩) (by simpa using hne2) (.int .i64 0)
                have u0 := v8.cell 0 rfl
                have u1 := v8.cell 1 rfl
                have u2 := v8.frozen 0
                have u3 := x1.cell 1 rfl
                have u4 := x1.frozen 1
                have u5 := y1.cell 0 rfl
                have u6 := y1.frozen 0
                go_wp2_with (go_at_call 81; refine (in_any _ _ _ _).mono ?_; rintro e w' ⟨rfl, rfl⟩)
                refine value_leave gx ge 1 0 0 rfl rfl (x2.far (p := ⟨ge, 0, none⟩) (by simpa using hne1) _) (y1.set 0 _) hne1 (fun h => by omega) (fun _ W' hg => ⟨by rw [HR2.out], ?_⟩)
                have BD := ((vB.setCell (p := ⟨gx, 0, none⟩) (by simp; omega) (.int .i64 0)).setCell (p := ⟨gx, 1, none⟩) (by simp; omega) (.int .i64 0)).setCell (p := ⟨ge, 0, none⟩) (by simp; omega) (.int .i64 1)
                exact BD.grown hg BD.size (fun j e => by cases e; omega)
              | true =>
                have HV2 : Hid (valueE fs day k0 k1 share = (fs.foldl (valF day k0 k1 share) (0, 0, 3)).2.2) := by
                  show _ = _
                  rw [HV.out, g1, if_neg (by simp), g2, if_neg (by simp), g3, if_neg (by simp), if_neg g4, g5, if_neg (by simp)]
                clear HV hend
                have f9 := q9.frozen 0
                have c9 := q9.cell 0 rfl
                go_wp2_with (go_at_call 81; refine (in_any _ _ _ _).mono ?_; rintro e w' ⟨rfl, hw'⟩; rw [hw']; clear hw')
                have HOK : Hid (∀ f ∈ fs, 0 ≤ f.f1 ∧ f.f1 ≤ 100000000) := fun f hf => by
                  obtain ⟨k, hk, rfl⟩ := List.getElem_of_mem hf
                  have h1 := hno.out k (by omega)
                  rw [List.getD_eq_getElem?_getD (i := k), List.getElem?_eq_getElem hk] at h1
                  simp only [Option.getD_some] at h1
                  unfold fixE at h1
                  split at h1
                  · cases h1
                  split at h1
                  · cases h1
                  rename_i h2
                  exact inB_true h2
                clear hno
                have z6 := q6.far (p := ⟨ge, 0, none⟩) (by simp; omega) (.int .i64 3)
                have z8 := q8.far (p := ⟨ge, 0, none⟩) (by simpa using hne1) (.int .i64 3)
                have z9 := q9.set 0 (.int .i64 3)
                have zB := qB.setCell (p := ⟨ge, 0, none⟩) (by simp; omega) (.int .i64 3)
                clear q6 q8 q9 qB hcd c60 c61 f9 c9
                generalize wr.setCell ⟨ge, 0, none⟩ (.int .i64 3) = W1 at *
                go_loopw [79] (fun vi wr => ∃ (k : Nat) (a b t : Int), k ≤ fs.length ∧ vi = .int .i64 k ∧ Hid ((a, b, t) = (fs.take k).foldl (valF day k0 k1 share) (0, 0, 3)) ∧ Blk wr w.heap.size 24 #[.int .i64 k0, .int .i64 k1] ∧ Blk wr gx 24 #[.int .i64 a, .int .i64 b] ∧ Blk wr ge 38 #[.int .i64 t] ∧ Below w.heap.size w wr) (fun vi _ => fs.length - (intOf vi).toNat)
                · exact ⟨0, 0, 0, 3, by omega, rfl, rfl, z6, z8, z9, zB⟩
                · clear z6 z8 z9 zB
                  obtain ⟨k, a, b, t, hk, rfl, HS, o6, o8, o9, oB⟩ := hrel
                  have hcd := Kd.C_below hC oB
                  by_cases hlt2 : k < fs.length
                  · obtain ⟨ad, hA, p0, p1⟩ := at_T26 hcd k (by omega) (by omega)
                    subst hA
                    simp only [Int.toNat_natCast] at p0 p1
                    rw [rd_T26_at fs k hlt2] at p0 p1
                    have hmem := HOK.out fs[k] (List.getElem_mem _)
                    have hst : (fs.take (k + 1)).foldl (valF day k0 k1 share) (0, 0, 3) = valF day k0 k1 share (a, b, t) fs[k] := by
                      rw [List.take_succ_eq_append_getElem hlt2, List.foldl_append, ← HS.out]; rfl
                    obtain ⟨d, hd'⟩ : ∃ d, d = fs[k] := ⟨_, rfl⟩
                    rw [← hd'] at p0 p1 hmem hst
                    clear hd'
                    have HST : Hid ((fs.take (k + 1)).foldl (valF day k0 k1 share) (0, 0, 3) = valF day k0 k1 share (a, b, t) d) := hst
                    clear hst
                    obtain ⟨m0, m1⟩ := hmem
                    by_cases hday : d.f0 ≤ day
                    · have hk0 := inB_true (n := k0) (a := 0) (b := 1000000) (by rw [g2]; simp)
                      have hk1 := inB_true (n := k1) (a := 0) (b := 1000000) (by rw [g3]; simp)
                      have hsh := inB_true (n := share) (a := 0) (b := 1000) (by rw [g5]; simp)
                      have p1 : 0 ≤ k0 * d.f1 := Int.mul_nonneg hk0.1 m0
                      have p2 : k0 * d.f1 ≤ 1000000 * 100000000 := Int.mul_le_mul hk0.2 m1 m0 (by omega)
                      have p3 : 0 ≤ k0 * d.f1 * share := Int.mul_nonneg p1 hsh.1
                      have p4 : k0 * d.f1 * share ≤ 1000000 * 100000000 * 1000 := Int.mul_le_mul p2 hsh.2 hsh.1 (by omega)
                      have r1 : 0 ≤ k1 * d.f1 := Int.mul_nonneg hk1.1 m0
                      have r2 : k1 * d.f1 ≤ 1000000 * 100000000 := Int.mul_le_mul hk1.2 m1 m0 (by omega)
                      have r3 : 0 ≤ k1 * d.f1 * share := Int.mul_nonneg r1 hsh.1
                      have r4 : k1 * d.f1 * share ≤ 1000000 * 100000000 * 1000 := Int.mul_le_mul r2 hsh.2 hsh.1 (by omega)
                      have v6 := o6.alloc (.cells #[.int .i64 d.f0, .int .i64 d.f1] 26)
                      have v8 := o8.alloc (.cells #[.int .i64 d.f0, .int .i64 d.f1] 26)
                      have v9 := o9.alloc (.cells #[.int .i64 d.f0, .int .i64 d.f1] 26)
                      have vB := oB.alloc (by have := oB.size; omega) (.cells #[.int .i64 d.f0, .int .i64 d.f1] 26)
                      have c60 := v6.cell 0 rfl
                      have c61 := v6.cell 1 rfl
                      have u0 := v8.cell 0 rfl
                      have u1 := v8.cell 1 rfl
                      have u2 := v8.frozen 0
                      have u4 := v8.frozen 1
                      have u5 := v9.cell 0 rfl
                      have u6 := v9.frozen 0
                      go_wp2
                      have n6 := (((v6.far (p := ⟨gx, 0, none⟩) (by simp; omega) (.int .i64 (k0 * d.f1 * share / 1000000))).far (p := ⟨gx, 1, none⟩) (by simp; omega) (.int .i64 (k1 * d.f1 * share / 1000000))).far (p := ⟨ge, 0, none⟩) (by simp; omega) (.int .i64 0))
                      have n8 := (((v8.set 0 (.int .i64 (k0 * d.f1 * share / 1000000))).set 1 (.int .i64 (k1 * d.f1 * share / 1000000))).far (p := ⟨ge, 0, none⟩) (by simpa using hne1) (.int .i64 0))
                      have n9 := (((v9.far (p := ⟨gx, 0, none⟩) (by simpa using hne2) (.int .i64 (k0 * d.f1 * share / 1000000))).far (p := ⟨gx, 1, none⟩) (by simpa using hne2) (.int .i64 (k1 * d.f1 * share / 1000000))).set 0 (.int .i64 0))
                      have nB := ((vB.setCell (p := ⟨gx, 0, none⟩) (by simp; omega) (.int .i64 (k0 * d.f1 * share / 1000000))).setCell (p := ⟨gx, 1, none⟩) (by simp; omega) (.int .i64 (k1 * d.f1 * share / 1000000))).setCell (p := ⟨ge, 0, none⟩) (by simp; omega) (.int .i64 0)
                      refine ⟨⟨k + 1, _, _, 0, by omega, by push_cast; rfl, ?_, n6, n8, n9, nB⟩, by simp [intOf]; omega⟩
                      show _ = _
                      rw [HST.out, valF, if_pos hday, worth, worth, Int.tdiv_eq_ediv_of_nonneg p3, Int.tdiv_eq_ediv_of_nonneg r3]
                    · go_wp2
                      refine ⟨⟨k + 1, a, b, t, by omega, by push_cast; rfl, ?_, o6.alloc _, o8.alloc _, o9.alloc _, oB.alloc (by have := oB.size; omega) _⟩, by simp [intOf]; omega⟩
                      show _ = _
                      rw [HST.out, valF, if_neg hday]
                  · have hkl : ¬ (k : Int) < (fs.length : Int) := by omega
                    go_wp2
                    have v8 := o8
                    have v9 := o9
                    have x1 := v8.set 0 (.int .i64 a)
                    have x2 := x1.set 1 (.int .i64 b)
                    have y1 := v9.set 0 (.int .i64 t)
                    have u0 := v8.cell 0 rfl
                    have u1 := v8.cell 1 rfl
                    have u2 := v8.frozen 0
                    have u4 := v8.frozen 1
                    have u5 := v9.cell 0 rfl
                    have u6 := v9.frozen 0
                    go_region
                    all_goals go_wp2
                    all_goals clear u0 u1 u2 u4 u5 u6
                    all_goals have hfin : (a, b, t) = fs.foldl (valF day k0 k1 share) (0, 0, 3) := (by have := HS.out; rw [List.take_of_length_le (by omega)] at this; exact this)
                    all_goals have hRt : R = if t ≠ 0 then (0, 0, t) else (a, b, t) := (by rw [HR.out, valueR, HV2.out, ← hfin])
                    · refine value_leave gx ge t a b rfl rfl (x2.far (p := ⟨ge, 0, none⟩) (by simpa using hne1) (.int .i64 t)) (((v9.far (p := ⟨gx, 0, none⟩) (by simpa using hne2) (.int .i64 a)).far (p := ⟨gx, 1, none⟩) (by simpa using hne2) (.int .i64 b)).set 0 (.int .i64 t)) hne1 (fun h0 => ⟨by rw [hRt, h0]; rfl, ?_⟩) (fun h0 W' hg => ⟨by rw [hRt, if_pos h0], ?_⟩)
                      all_goals have BD := ((oB.setCell (p := ⟨gx, 0, none⟩) (by simp; omega) (.int .i64 a)).setCell (p := ⟨gx, 1, none⟩) (by simp; omega) (.int .i64 b)).setCell (p := ⟨ge, 0, none⟩) (by simp; omega) (.int .i64 t)
                      · exact ⟨BD.os, BD.tape, BD.output, BD.size, BD.block⟩
                      · exact BD.grown (row := some gx) ⟨hg.os, hg.tape, hg.output, hg.size, hg.block⟩ BD.size (fun j e => by cases e; omega)
end Go.Proofs.Ytkdlbocjgbmbdaa.Print

namespace Go.Proofs.Ytkdlbocjgbmbdaa.Print
open Go.RowKit Go.Shelf Go.Proofs.YtkdlbocjgbmbdaaW.PrintWords
set_option linter.unusedVariables false
def pay_Check.f (a0_0 : Int) (a0_1 : Int) (a0_2 : Int) (l0_3 : List (S84)) (l0_4 : List (S61)) : Option (Int) := some (tillE a0_0 a0_1 a0_2 l0_3 l0_4)
theorem pay_Check.calls (a0_0 : Int) (a0_1 : Int) (a0_2 : Int) (A0_3 : Option Addr) (c0_3 : Nat) (l0_3 : List (S84)) (A0_4 : Option Addr) (c0_4 : Nat) (l0_4 : List (S61)) (r : Int) (w : World) (hr0_3 : Kd.C k84 w A0_3 l0_3.length l0_3) (hc0_3 : l0_3.length ≤ c0_3) (hr0_4 : Kd.C k61 w A0_4 l0_4.length l0_4) (hc0_4 : l0_4.length ≤ c0_4) (h : pay_Check.f a0_0 a0_1 a0_2 l0_3 l0_4 = some r) :
    Calls Try.prog 73 #[.agg #[.int .i64 a0_0, .int .i64 a0_1, .int .i64 a0_2, .slice A0_3 l0_3.length c0_3, .slice A0_4 l0_4.length c0_4]] w fun e w' => e = .returned (.int .i64 r) ∧ Below w.heap.size w w' := by
  have h := Option.some.inj h
  refine (check73_any a0_0 a0_1 a0_2 A0_3 c0_3 l0_3 A0_4 c0_4 l0_4 w hr0_3 hc0_3 hr0_4).mono ?_
  rw [h]
  exact fun e w' h => h
def pay_Same.f (a0_0 : Int) (a0_1 : Int) (a0_2 : Int) (l0_3 : List (S84)) (l0_4 : List (S61)) (a1 : Int) (a2 : Int) : Option (Int × Int) := some (sameR a0_0 a0_1 a0_2 l0_3 l0_4 a1 a2)
theorem pay_Same.calls (a0_0 : Int) (a0_1 : Int) (a0_2 : Int) (A0_3 : Option Addr) (c0_3 : Nat) (l0_3 : List (S84)) (A0_4 : Option Addr) (c0_4 : Nat) (l0_4 : List (S61)) (a1 : Int) (a2 : Int) (r1 : Int) (r2 : Int) (w : World) (hr0_3 : Kd.C k84 w A0_3 l0_3.length l0_3) (hc0_3 : l0_3.length ≤ c0_3) (hr0_4 : Kd.C k61 w A0_4 l0_4.length l0_4) (hc0_4 : l0_4.length ≤ c0_4) (h : pay_Same.f a0_0 a0_1 a0_2 l0_3 l0_4 a1 a2 = some (r1, r2)) :
    Calls Try.prog 69 #[.agg #[.int .i64 a0_0, .int .i64 a0_1, .int .i64 a0_2, .slice A0_3 l0_3.length c0_3, .slice A0_4 l0_4.length c0_4], .int .i64 a1, .int .i64 a2] w fun e w' => e = .returned (.tuple #[.int .i64 r1, .int .i64 r2]) ∧ Below w.heap.size w w' := by
  have h := Option.some.inj h
  refine (same_any a0_0 a0_1 a0_2 A0_3 c0_3 l0_3 A0_4 c0_4 l0_4 a1 a2 w hr0_3 hc0_3 hr0_4).mono ?_
  rw [h]
  exact fun e w' h => h
def pay_Lawful.f (a0_0 : Int) (a0_1 : Int) (a0_2 : Int) (l0_3 : List (S84)) (l0_4 : List (S61)) : Option (Int × Int) := some (lawfulR a0_0 a0_1 a0_2 l0_3 l0_4)
theorem pay_Lawful.calls (a0_0 : Int) (a0_1 : Int) (a0_2 : Int) (A0_3 : Option Addr) (c0_3 : Nat) (l0_3 : List (S84)) (A0_4 : Option Addr) (c0_4 : Nat) (l0_4 : List (S61)) (r1 : Int) (r2 : Int) (w : World) (hr0_3 : Kd.C k84 w A0_3 l0_3.length l0_3) (hc0_3 : l0_3.length ≤ c0_3) (hr0_4 : Kd.C k61 w A0_4 l0_4.length l0_4) (hc0_4 : l0_4.length ≤ c0_4) (h : pay_Lawful.f a0_0 a0_1 a0_2 l0_3 l0_4 = some (r1, r2)) :
    Calls Try.prog 38 #[.agg #[.int .i64 a0_0, .int .i64 a0_1, .int .i64 a0_2, .slice A0_3 l0_3.length c0_3, .slice A0_4 l0_4.length c0_4]] w fun e w' => e = .returned (.tuple #[.int .i64 r1, .int .i64 r2]) ∧ Below w.heap.size w w' := by
  have h := Option.some.inj h
  refine (lawful_any a0_0 a0_1 a0_2 A0_3 c0_3 l0_3 A0_4 c0_4 l0_4 w hr0_3 hc0_3 hr0_4).mono ?_
  rw [h]
  exact fun e w' h => h
def pay_Breach.f (a0_0 : Int) (a0_1 : Int) (a0_2 : Int) (l0_3 : List (S84)) (l0_4 : List (S61)) : Option (Int × Int × Int) := some (breachR a0_0 a0_1 a0_2 l0_3 l0_4)
theorem pay_Breach.calls (a0_0 : Int) (a0_1 : Int) (a0_2 : Int) (A0_3 : Option Addr) (c0_3 : Nat) (l0_3 : List (S84)) (A0_4 : Option Addr) (c0_4 : Nat) (l0_4 : List (S61)) (r1 : Int) (r2 : Int) (r3 : Int) (w : World) (hr0_3 : Kd.C k84 w A0_3 l0_3.length l0_3) (hc0_3 : l0_3.length ≤ c0_3) (hr0_4 : Kd.C k61 w A0_4 l0_4.length l0_4) (hc0_4 : l0_4.length ≤ c0_4) (h : pay_Breach.f a0_0 a0_1 a0_2 l0_3 l0_4 = some (r1, r2, r3)) :
    Calls Try.prog 51 #[.agg #[.int .i64 a0_0, .int .i64 a0_1, .int .i64 a0_2, .slice A0_3 l0_3.length c0_3, .slice A0_4 l0_4.length c0_4]] w fun e w' => e = .returned (.tuple #[.int .i64 r1, .int .i64 r2, .int .i64 r3]) ∧ Below w.heap.size w w' := by
  have h := Option.some.inj h
  refine (breach_any a0_0 a0_1 a0_2 A0_3 c0_3 l0_3 A0_4 c0_4 l0_4 w hr0_3 hc0_3 hr0_4 hc0_4).mono ?_
  rw [h]
  exact fun e w' h => h
def pay_Room.f (a0_0 : Int) (a0_1 : Int) (a0_2 : Int) (l0_3 : List (S84)) (l0_4 : List (S61)) (a1 : Int) (a2 : Int) : Option (Int × Int) := some (roomR a0_0 a0_1 a0_2 l0_3 l0_4 a1 a2)
theorem pay_Room.calls (a0_0 : Int) (a0_1 : Int) (a0_2 : Int) (A0_3 : Option Addr) (c0_3 : Nat) (l0_3 : List (S84)) (A0_4 : Option Addr) (c0_4 : Nat) (l0_4 : List (S61)) (a1 : Int) (a2 : Int) (r1 : Int) (r2 : Int) (w : World) (hr0_3 : Kd.C k84 w A0_3 l0_3.length l0_3) (hc0_3 : l0_3.length ≤ c0_3) (hr0_4 : Kd.C k61 w A0_4 l0_4.length l0_4) (hc0_4 : l0_4.length ≤ c0_4) (h : pay_Room.f a0_0 a0_1 a0_2 l0_3 l0_4 a1 a2 = some (r1, r2)) :
    Calls Try.prog 33 #[.agg #[.int .i64 a0_0, .int .i64 a0_1, .int .i64 a0_2, .slice A0_3 l0_3.length c0_3, .slice A0_4 l0_4.length c0_4], .int .i64 a1, .int .i64 a2] w fun e w' => e = .returned (.tuple #[.int .i64 r1, .int .i64 r2]) ∧ Below w.heap.size w w' := by
  have h := Option.some.inj h
  refine (room_any a0_0 a0_1 a0_2 A0_3 c0_3 l0_3 A0_4 c0_4 l0_4 a1 a2 w hr0_3 hc0_3 hr0_4).mono ?_
  rw [h]
  exact fun e w' h => h
def pay_Soonest.f (a0_0 : Int) (a0_1 : Int) (a0_2 : Int) (l0_3 : List (S84)) (l0_4 : List (S61)) (a1 : Int) (a2 : Int) (a3 : Int) : Option (Int × Int) := some (soonR a0_0 a0_1 a0_2 l0_3 l0_4 a1 a2 a3)
theorem pay_Soonest.calls (a0_0 : Int) (a0_1 : Int) (a0_2 : Int) (A0_3 : Option Addr) (c0_3 : Nat) (l0_3 : List (S84)) (A0_4 : Option Addr) (c0_4 : Nat) (l0_4 : List (S61)) (a1 : Int) (a2 : Int) (a3 : Int) (r1 : Int) (r2 : Int) (w : World) (hr0_3 : Kd.C k84 w A0_3 l0_3.length l0_3) (hc0_3 : l0_3.length ≤ c0_3) (hr0_4 : Kd.C k61 w A0_4 l0_4.length l0_4) (hc0_4 : l0_4.length ≤ c0_4) (h : pay_Soonest.f a0_0 a0_1 a0_2 l0_3 l0_4 a1 a2 a3 = some (r1, r2)) :
    Calls Try.prog 36 #[.agg #[.int .i64 a0_0, .int .i64 a0_1, .int .i64 a0_2, .slice A0_3 l0_3.length c0_3, .slice A0_4 l0_4.length c0_4], .int .i64 a1, .int .i64 a2, .int .i64 a3] w fun e w' => e = .returned (.tuple #[.int .i64 r1, .int .i64 r2]) ∧ Below w.heap.size w w' := by
  have h := Option.some.inj h
  refine (soon_any a0_0 a0_1 a0_2 A0_3 c0_3 l0_3 A0_4 c0_4 l0_4 a1 a2 a3 w hr0_3 hc0_3 hr0_4).mono ?_
  rw [h]
  exact fun e w' h => h
def pay_Match.f (k : Nat) (l0 : List (S77)) (l1 : List ByteArray) : Option (Int × List Int × Int) := some (matchR l0 l1)
theorem pay_Match.mono : ∀ a0 a1 k, LeO (pay_Match.f k a0 a1) (pay_Match.f (k + 1) a0 a1) := fun _ _ _ => LeO.refl _
theorem pay_Match.calls (k : Nat) (A0 : Option Addr) (c0 : Nat) (l0 : List (S77)) (A1 : Option Addr) (c1 : Nat) (l1 : List ByteArray) (r1 : Int) (r2 : List Int) (r3 : Int) (w : World) (hr0 : Kd.C k77 w A0 l0.length l0) (hc0 : l0.length ≤ c0) (hr1 : Kd.C Kd.string w A1 l1.length l1) (hc1 : l1.length ≤ c1) (h : pay_Match.f k l0 l1 = some (r1, r2, r3)) :
    Calls Try.prog 42 #[.slice A0 l0.length c0, .slice A1 l1.length c1] w fun e w' => ∃ v1_ : Value, e = .returned (.tuple #[.int .i64 r1, v1_, .int .i64 r3]) ∧ Kd.R (Kd.int .i64) 3 w' w.heap.size (fun _ => True) v1_ r2 ∧ Below w.heap.size w w' := by
  have h := Option.some.inj h
  refine (match_any A0 c0 l0 A1 c1 l1 w hr0 hc0 hr1).mono ?_
  rw [h]
  exact fun e w' h => h
def pay_Value.f (k : Nat) (l0 : List (S26)) (a1 : Int) (a2_0 : Int) (a2_1 : Int) (a3 : Int) : Option (Int × Int × Int) := some (valueR l0 a1 a2_0 a2_1 a3)
theorem pay_Value.mono : ∀ a0 a1 a2 a3 a4 k, LeO (pay_Value.f k a0 a1 a2 a3 a4) (pay_Value.f (k + 1) a0 a1 a2 a3 a4) := fun _ _ _ _ _ _ => LeO.refl _
theorem pay_Value.calls (k : Nat) (A0 : Option Addr) (c0 : Nat) (l0 : List (S26)) (a1 : Int) (a2_0 : Int) (a2_1 : Int) (a3 : Int) (r1 : Int) (r2 : Int) (r3 : Int) (w : World) (hr0 : Kd.C k26 w A0 l0.length l0) (hc0 : l0.length ≤ c0) (h : pay_Value.f k l0 a1 a2_0 a2_1 a3 = some (r1, r2, r3)) :
    Calls Try.prog 23 #[.slice A0 l0.length c0, .int .i64 a1, .agg #[.int .i64 a2_0, .int .i64 a2_1], .int .i64 a3] w fun e w' => e = .returned (.tuple #[.agg #[.int .i64 r1, .int .i64 r2], .int .i64 r3]) ∧ Below w.heap.size w w' := by
  have h := Option.some.inj h
  by_cases hl : (20 : Int) < l0.length
  · refine (value_long A0 c0 l0 a1 a2_0 a2_1 a3 w hl).mono ?_
    have h2 : valueR l0 a1 a2_0 a2_1 a3 = (0, 0, 6) := by
      have h3 : valueE l0 a1 a2_0 a2_1 a3 = 6 := by rw [valueE, if_pos hl]
      rw [valueR, h3, if_pos (by omega)]
    rw [h2] at h
    cases h
    exact fun e w' h => h
  · refine (value_main A0 c0 l0 a1 a2_0 a2_1 a3 w hr0 (by omega) _ (show Hid (_ = _) from rfl)).mono ?_
    rw [h]
    exact fun e w' h => h
def pay_Exposed.f (l0_0 : List (S24)) (a0_1 : Int) (a0_2 : Int) (a0_3 : Int) (l1 : List Int) : Option ((List (S24)) × Int) := some (exposedR l0_0 a0_1 a0_2 a0_3 l1)
theorem pay_Exposed.calls (A0_0 : Option Addr) (c0_0 : Nat) (l0_0 : List (S24)) (a0_1 : Int) (a0_2 : Int) (a0_3 : Int) (A1 : Option Addr) (c1 : Nat) (l1 : List Int) (r1 : List (S24)) (r2 : Int) (w : World) (hr0_0 : Kd.C k24 w A0_0 l0_0.length l0_0) (hc0_0 : l0_0.length ≤ c0_0) (hr1 : Kd.C (Kd.int .i64) w A1 l1.length l1) (hc1 : l1.length ≤ c1) (h : pay_Exposed.f l0_0 a0_1 a0_2 a0_3 l1 = some (r1, r2)) :
    Calls Try.prog 57 #[.agg #[.slice A0_0 l0_0.length c0_0, .int .i64 a0_1, .int .i64 a0_2, .int .i64 a0_3], .slice A1 l1.length c1] w fun e w' => ∃ v0_ : Value, e = .returned (.tuple #[v0_, .int .i64 r2]) ∧ Kd.R k24 24 w' w.heap.size (fun _ => True) v0_ r1 ∧ Below w.heap.size w w' := by
  have h := Option.some.inj h
  refine (Exposed_any A0_0 c0_0 l0_0 a0_1 a0_2 a0_3 A1 c1 l1 w hr0_0 hr1).mono ?_
  rw [h]
  exact fun e w' h => h
def pay_Hedged.f (l0_0 : List (S24)) (a0_1 : Int) (a0_2 : Int) (a0_3 : Int) : Option (List Int × Int × Int) := some (hedgedR l0_0 a0_1 a0_2 a0_3)
theorem pay_Hedged.calls (A0_0 : Option Addr) (c0_0 : Nat) (l0_0 : List (S24)) (a0_1 : Int) (a0_2 : Int) (a0_3 : Int) (r1 : List Int) (r2 : Int) (r3 : Int) (w : World) (hr0_0 : Kd.C k24 w A0_0 l0_0.length l0_0) (hc0_0 : l0_0.length ≤ c0_0) (h : pay_Hedged.f l0_0 a0_1 a0_2 a0_3 = some (r1, r2, r3)) :
    Calls Try.prog 59 #[.agg #[.slice A0_0 l0_0.length c0_0, .int .i64 a0_1, .int .i64 a0_2, .int .i64 a0_3]] w fun e w' => ∃ v0_ : Value, e = .returned (.tuple #[v0_, .int .i64 r2, .int .i64 r3]) ∧ Kd.R (Kd.int .i64) 3 w' w.heap.size (fun _ => True) v0_ r1 ∧ Below w.heap.size w w' := by
  have h := Option.some.inj h
  refine (Hedged_any A0_0 c0_0 l0_0 a0_1 a0_2 a0_3 w hr0_0).mono ?_
  rw [h]
  exact fun e w' h => h
end Go.Proofs.Ytkdlbocjgbmbdaa.Print

namespace Go.Proofs.Ytkdlbocjgbmbdaa.Print
open Go.RowKit Go.Proofs.YtkdlbocjgbmbdaaW.PrintWords Go.Proofs.YtkdlbocjgbmbdaaW.PrintLast Go.Proofs.YtkdlbocjgbmbdaaW.PrintMore
attribute [local go_sem] max2_int min2_int max_two min_two max_three min_three max_four min_four   -- for this text's walks alone
set_option linter.unusedVariables false
set_option linter.unusedSimpArgs false
theorem eqA24 (d : Nat) (w : World) (x0 y0 : Int) (x1 y1 : Int) :
    (Op.equalIn (d + 2) 24 (.agg #[.int .i64 x0, .int .i64 x1]) (.agg #[.int .i64 y0, .int .i64 y1])).run Try.prog w = .ok (x0 == y0 && (x1 == y1)) w := by
  refine eqA_of Try.underlying24 (by kernel_rfl) ?_
  refine eqf_cons (by rfl) (by go_simp; rfl) (by go_simp; rfl) (by go_simp) ?_
  exact eqf_last (by rfl) (by go_simp; rfl) (by go_simp; rfl) (by go_simp)
end Go.Proofs.Ytkdlbocjgbmbdaa.Print

namespace Go.Proofs.Ytkdlbocjgbmbdaa.Print
open Go.RowKit Go.Proofs.YtkdlbocjgbmbdaaW.PrintWords Go.Proofs.YtkdlbocjgbmbdaaW.PrintLast Go.Proofs.YtkdlbocjgbmbdaaW.PrintMore
attribute [local go_sem] max2_int min2_int max_two min_two max_three min_three max_four min_four   -- for this text's walks alone
set_option linter.unusedVariables false
set_option linter.unusedSimpArgs false
def swarfkit_EqualInts.l0 : Nat → List Int → List Int → Bool → Int → Option (Bool)
  | 0, _, _, _, _ => none
  | k + 1, x0, x1, x5, x6 => if x5 = true then (if x6 < (x0.length : Int) then (if 0 ≤ x6 then (if x6 < (x1.length : Int) then (swarfkit_EqualInts.l0 k x0 x1 ((rd x0 x6) == (rd x1 x6)) (wrap64 (x6 + 1))) else (none)) else (none)) else (some x5)) else (some x5)
def swarfkit_EqualInts.f (k : Nat) (l0 : List Int) (l1 : List Int) : Option (Bool) := swarfkit_EqualInts.l0 k l0 l1 ((l0.length : Int) == (l1.length : Int)) 0
theorem swarfkit_EqualInts.mono_l : ∀ k, (∀ y0 y1 y2 y3, LeO (swarfkit_EqualInts.l0 k y0 y1 y2 y3) (swarfkit_EqualInts.l0 (k + 1) y0 y1 y2 y3))
  | 0 => fun _ _ _ _ r h => by simp [swarfkit_EqualInts.l0] at h
  | k + 1 => by
    have ih0 := swarfkit_EqualInts.mono_l k
    · intro y0 y1 y2 y3
      unfold swarfkit_EqualInts.l0
      repeat' first
      | (with_reducible exact ih0 _ _ _ _)
      | (with_reducible exact LeO.refl _)
      | (with_reducible exact LeO.none _)
      | (with_reducible refine LeO.ite ?_ ?_)
      | (with_reducible refine LeO.bind ?_ (fun _ => ?_))
      | exact ih0 _ _ _ _
      | exact LeO.none _
      | refine LeO.ite ?_ ?_
      | refine LeO.bind ?_ (fun _ => ?_)
theorem swarfkit_EqualInts.mono : ∀ a0 a1 k, LeO (swarfkit_EqualInts.f k a0 a1) (swarfkit_EqualInts.f (k + 1) a0 a1) := by
  intro a0 a1 k
  have ih0 := swarfkit_EqualInts.mono_l k
  unfold swarfkit_EqualInts.f
  repeat' first
      | (with_reducible exact ih0 _ _ _ _)
      | (with_reducible exact LeO.refl _)
      | (with_reducible exact LeO.none _)
      | (with_reducible refine LeO.ite ?_ ?_)
      | (with_reducible refine LeO.bind ?_ (fun _ => ?_))
      | exact ih0 _ _ _ _
      | exact LeO.none _
      | refine LeO.ite ?_ ?_
      | refine LeO.bind ?_ (fun _ => ?_)
set_option maxHeartbeats 8000000 in
set_option maxRecDepth 100000 in
theorem swarfkit_EqualInts.calls (k : Nat) (A0 : Option Addr) (c0 : Nat) (l0 : List Int) (A1 : Option Addr) (c1 : Nat) (l1 : List Int) (r : Bool) (w : World) (hr0 : Kd.C (Kd.int .i64) w A0 l0.length l0) (hc0 : l0.length ≤ c0) (hr1 : Kd.C (Kd.int .i64) w A1 l1.length l1) (hc1 : l1.length ≤ c1) (h : swarfkit_EqualInts.f k l0 l1 = some r) :
    Calls Try.prog 46 #[.slice A0 l0.length c0, .slice A1 l1.length c1] w fun e w' => e = .returned (.bool r) ∧ Drawn0 w w' := by
  have HR0 := Aside0.mk hr0
  have HC0 := Aside0.mk hc0
  clear hr0 hc0
  have HR1 := Aside0.mk hr1
  have HC1 := Aside0.mk hc1
  clear hr1 hc1
  have H : (swarfkit_EqualInts.l0 k l0 l1 ((l0.length : Int) == (l1.length : Int)) 0) = some r := h
  clear h
  have H' := Aside0.mk H
  clear H
  go_enter Try.func46, Try.ntmps46
  go_wp2
  repeat (go_quiet (fail); try go_wp2)
  go_loopg [5, 6] k (fun kq v5 v6 w' => ∃ (x5_1 : Bool) (x6_1 : Int), v5 = .bool x5_1 ∧ v6 = .int .i64 x6_1 ∧ Aside0 (swarfkit_EqualInts.l0 kq l0 l1 x5_1 x6_1 = some r) ∧ Aside0 (kq ≤ k) ∧ Drawn0 w w')
  case atStart => exact ⟨(((l0.length : Int) == (l1.length : Int))), (0), (by first | rfl | (simp; done) | (simp [*]; done)), (by first | rfl | (simp; done) | (simp [*]; done)), H', ⟨Nat.le_refl _⟩, by repeat (first | exact Drawn0.refl _ | apply Drawn0.step)⟩
  case round =>
    clear H'
    try clear c1
    try clear p2
    obtain ⟨x5_1, x6_1, rfl, rfl, HA, HK1, ⟨m1, rfl⟩⟩ := hrel
    cases gk with
    | zero => exact absurd HA.out (by simp [swarfkit_EqualInts.l0])
    | succ k1 =>
      have H := HA.out
      clear HA
      simp only [swarfkit_EqualInts.l0] at H
      by_cases c3 : x5_1 = true
      · subst c3
        have H1 : (if x6_1 < (l0.length : Int) then (if 0 ≤ x6_1 then (if x6_1 < (l1.length : Int) then (swarfkit_EqualInts.l0 k1 l0 l1 ((rd l0 x6_1) == (rd l1 x6_1)) (wrap64 (x6_1 + 1))) else (none)) else (none)) else (some true)) = some r := by rw [if_pos rfl] at H; exact H
        clear H
        have H := H1
        clear H1
        by_cases c4 : x6_1 < (l0.length : Int)
        · rw [if_pos c4] at H
          have c4b0 : decide (x6_1 < (l0.length : Int)) = true := decide_eq_true c4
          clear c4
          by_cases c5 : 0 ≤ x6_1
          · rw [if_pos c5] at H
            have c5b0 : decide (0 ≤ x6_1) = true := decide_eq_true c5
            clear c5
            by_cases c6 : x6_1 < (l1.length : Int)
            · rw [if_pos c6] at H
              have c6b0 : decide (x6_1 < (l1.length : Int)) = true := decide_eq_true c6
              clear c6
              have H' := Aside0.mk H
              clear H
              have p158 : 0 ≤ (x6_1 : Int) := of_decide_eq_true (by first | (with_reducible assumption) | assumption)
              have q158 : x6_1 < (l0.length : Int) := of_decide_eq_true (by first | (with_reducible assumption) | assumption)
              obtain ⟨ad158, e158, hx158_0⟩ := Kd.at_int HR0.out x6_1 p158 q158
              cases e158
              replace p158 := eq_true p158
              replace q158 := eq_true q158
              have p159 : 0 ≤ (x6_1 : Int) := of_decide_eq_true (by first | (with_reducible assumption) | assumption)
              have q159 : x6_1 < (l1.length : Int) := of_decide_eq_true (by first | (with_reducible assumption) | assumption)
              obtain ⟨ad159, e159, hx159_0⟩ := Kd.at_int HR1.out x6_1 p159 q159
              cases e159
              replace p159 := eq_true p159
              replace q159 := eq_true q159
              go_wp2
              repeat (go_quiet (fail); try go_wp2)
              go_roundg k1
              case measure => have := HK1.out; omega
              case rel => exact ⟨(((rd l0 x6_1) == (rd l1 x6_1))), (wrap64 (x6_1 + 1)), (by first | rfl | (simp; done) | (simp [*]; done)), (by first | rfl | (simp; done) | (simp [*]; done)), H', ⟨by have := HK1.out; omega⟩, by repeat (first | exact Drawn0.refl _ | apply Drawn0.step)⟩
            · rw [if_neg c6] at H
              exact absurd H (by simp)
          · rw [if_neg c5] at H
            exact absurd H (by simp)
        · rw [if_neg c4] at H
          have c4b0 : decide (x6_1 < (l0.length : Int)) = false := decide_eq_false c4
          clear c4
          obtain rfl := Option.some.inj H
          go_wp2
          repeat (go_quiet (fail); try go_wp2)
          go_ret
          exact ⟨by first | rfl | (simp; done) | (simp [*]; done), by repeat (first | exact Drawn0.refl _ | apply Drawn0.step)⟩
      · replace c3 := Bool.eq_false_iff.mpr c3
        subst c3
        have H1 : (some false) = some r := by rw [if_neg (show ¬ (false = true) by decide)] at H; exact H
        clear H
        have H := H1
        clear H1
        obtain rfl := Option.some.inj H
        go_wp2
        repeat (go_quiet (fail); try go_wp2)
        go_ret
        exact ⟨by first | rfl | (simp; done) | (simp [*]; done), by repeat (first | exact Drawn0.refl _ | apply Drawn0.step)⟩
mutual
def pay_checkHedge.l0 : Nat → List (S24) → Int → Int → List (S24) → Int → Int → Int → Option (Int)
  | 0, _, _, _, _, _, _, _ => none
  | k + 1, x16, x17, x18, x161000, x161001, x161002, x161003 => if x18 < x17 then (if 0 ≤ x18 then (if x18 < (x16.length : Int) then ((pay_in.f ((rd_T24 x16 x18).f0) 0 1000000).bind fun t163 => (if t163 = true then ((pay_in.f ((rd_T24 x16 x18).f1) 0 1000000).bind fun t164 => (pay_checkHedge.j1 k x16 x17 x18 (!t164) x161000 x161001 x161002 x161003 ((rd_T24 x16 x18).f0) ((rd_T24 x16 x18).f1))) else (pay_checkHedge.j1 k x16 x17 x18 (!t163) x161000 x161001 x161002 x161003 ((rd_T24 x16 x18).f0) ((rd_T24 x16 x18).f1)))) else (none)) else (none)) else ((pay_in.f x161001 1 1000000).bind fun t165 => (if t165 = true then ((pay_in.f x161002 0 1000000).bind fun t166 => (if t166 = true then ((pay_in.f x161003 0 50).bind fun t167 => (if t167 = true then (some 0) else (some 1))) else (some 1))) else (some 1)))
def pay_checkHedge.j1 : Nat → List (S24) → Int → Int → Bool → List (S24) → Int → Int → Int → Int → Int → Option (Int)
  | 0, _, _, _, _, _, _, _, _, _, _ => none
  | k + 1, x16, x17, x18, x22, x161000, x161001, x161002, x161003, x163000, x163001 => if x22 = true then (some 1) else (if x163000 > x163001 then (some 5) else (pay_checkHedge.l0 k x16 x17 (wrap64 (x18 + 1)) x161000 x161001 x161002 x161003))
end
def pay_checkHedge.f (k : Nat) (l0_0 : List (S24)) (a0_1 : Int) (a0_2 : Int) (a0_3 : Int) : Option (Int) := if (l0_0.length : Int) = 0 then (some 7) else (if (l0_0.length : Int) > 20 then (some 6) else (pay_checkHedge.l0 k l0_0 (l0_0.length : Int) 0 l0_0 a0_1 a0_2 a0_3))
theorem pay_checkHedge.mono_l : ∀ k, (∀ y0 y1 y2 y3 y4 y5 y6, LeO (pay_checkHedge.l0 k y0 y1 y2 y3 y4 y5 y6) (pay_checkHedge.l0 (k + 1) y0 y1 y2 y3 y4 y5 y6)) ∧ (∀ y0 y1 y2 y3 y4 y5 y6 y7 y8 y9, LeO (pay_checkHedge.j1 k y0 y1 y2 y3 y4 y5 y6 y7 y8 y9) (pay_checkHedge.j1 (k + 1) y0 y1 y2 y3 y4 y5 y6 y7 y8 y9))
  | 0 => ⟨fun _ _ _ _ _ _ _ r h => by simp [pay_checkHedge.l0] at h, fun _ _ _ _ _ _ _ _ _ _ r h => by simp [pay_checkHedge.j1] at h⟩
  | k + 1 => by
    obtain ⟨ih0, ih1⟩ := pay_checkHedge.mono_l k
    refine ⟨?_, ?_⟩
    · intro y0 y1 y2 y3 y4 y5 y6
      unfold pay_checkHedge.l0
      repeat' first
      | (with_reducible exact ih0 _ _ _ _ _ _ _)
      | (with_reducible exact ih1 _ _ _ _ _ _ _ _ _ _)
      | (with_reducible exact LeO.refl _)
      | (with_reducible exact LeO.none _)
      | (with_reducible refine LeO.ite ?_ ?_)
      | (with_reducible refine LeO.bind ?_ (fun _ => ?_))
      | exact ih0 _ _ _ _ _ _ _
      | exact ih1 _ _ _ _ _ _ _ _ _ _
      | exact LeO.none _
      | refine LeO.ite ?_ ?_
      | refine LeO.bind ?_ (fun _ => ?_)
    · intro y0 y1 y2 y3 y4 y5 y6 y7 y8 y9
      unfold pay_checkHedge.j1
      repeat' first
      | (with_reducible exact ih0 _ _ _ _ _ _ _)
      | (with_reducible exact ih1 _ _ _ _ _ _ _ _ _ _)
      | (with_reducible exact LeO.refl _)
      | (with_reducible exact LeO.none _)
      | (with_reducible refine LeO.ite ?_ ?_)
      | (with_reducible refine LeO.bind ?_ (fun _ => ?_))
      | exact ih0 _ _ _ _ _ _ _
      | exact ih1 _ _ _ _ _ _ _ _ _ _
      | exact LeO.none _
      | refine LeO.ite ?_ ?_
      | refine LeO.bind ?_ (fun _ => ?_)
theorem pay_checkHedge.mono : ∀ a0 a1 a2 a3 k, LeO (pay_checkHedge.f k a0 a1 a2 a3) (pay_checkHedge.f (k + 1) a0 a1 a2 a3) := by
  intro a0 a1 a2 a3 k
  obtain ⟨ih0, ih1⟩ := pay_checkHedge.mono_l k
  unfold pay_checkHedge.f
  repeat' first
      | (with_reducible exact ih0 _ _ _ _ _ _ _)
      | (with_reducible exact ih1 _ _ _ _ _ _ _ _ _ _)
      | (with_reducible exact LeO.refl _)
      | (with_reducible exact LeO.none _)
      | (with_reducible refine LeO.ite ?_ ?_)
      | (with_reducible refine LeO.bind ?_ (fun _ => ?_))
      | exact ih0 _ _ _ _ _ _ _
      | exact ih1 _ _ _ _ _ _ _ _ _ _
      | exact LeO.none _
      | refine LeO.ite ?_ ?_
      | refine LeO.bind ?_ (fun _ => ?_)
set_option maxHeartbeats 8000000 in
set_option maxRecDepth 100000 in
theorem pay_checkHedge.calls (k : Nat) (A0_0 : Option Addr) (c0_0 : Nat) (l0_0 : List (S24)) (a0_1 : Int) (a0_2 : Int) (a0_3 : Int) (r : Int) (w : World) (hr0_0 : Kd.C k24 w A0_0 l0_0.length l0_0) (hc0_0 : l0_0.length ≤ c0_0) (h : pay_checkHedge.f k l0_0 a0_1 a0_2 a0_3 = some r) :
    Calls Try.prog 103 #[.agg #[.slice A0_0 l0_0.length c0_0, .int .i64 a0_1, .int .i64 a0_2, .int .i64 a0_3]] w fun e w' => e = .returned (.int .i64 r) ∧ Below w.heap.size w w' := by
  have hu87 := Try.underlying87
  have hu24 := Try.underlying24
  have HR0_0 := Aside0.mk hr0_0
  have HC0_0 := Aside0.mk hc0_0
  clear hr0_0 hc0_0
  have HB := Aside0.mk (Below.refl w.heap.size w)
  have H : (if (l0_0.length : Int) = 0 then (some 7) else (if (l0_0.length : Int) > 20 then (some 6) else (pay_checkHedge.l0 k l0_0 (l0_0.length : Int) 0 l0_0 a0_1 a0_2 a0_3))) = some r := h
  clear h
  by_cases c2 : (l0_0.length : Int) = 0
  · rw [if_pos c2] at H
    have c2b0 : ((l0_0.length : Int) == 0) = true := beq_iff_eq.mpr c2
    have c2b1 : ((l0_0.length : Int) != 0) = false := bne_eq_false_iff_eq.mpr c2
    clear c2
    obtain rfl := Option.some.inj H
    go_enter Try.func103, Try.ntmps103
    go_wp2_with (first | ((with_reducible refine gate_dst (N := 1) rfl ?_); refine box_event ?hg (N := 1) ?hd (cs := #[.slice A0_0 l0_0.length c0_0, .int .i64 a0_1, .int .i64 a0_2, .int .i64 a0_3]) (t := 87) ?hr ?_; (case hd => rfl); (case hg => rfl); (case hr => first | (go_simp; done) | (go_simp; rfl)); intro gb160 hg w3 hbox hb; have n0_ := Aside0.mk (below_step (by repeat (first | (with_reducible first | exact HB.out | apply below_alloc | apply pw_below_drewN | apply below_drew1) | exact HB.out)) hb); have n1_ := Aside0.mk (hbox); have n2_ := Aside0.mk ((by rw [hg]; exact (below_size (by repeat (first | (with_reducible first | exact HB.out | apply below_alloc | apply pw_below_drewN | apply below_drew1) | exact HB.out))) : w.heap.size ≤ gb160)); have n3_ := Aside0.mk ((by rw [hg]; exact (below_size (by repeat (first | (with_reducible first | exact HB.out | apply below_alloc | apply pw_below_drewN | apply below_drew1) | exact HB.out))) : w.heap.size ≤ gb160)); clear HB; have HB := n0_; have BK160 := n1_; have GW160 := n2_; have GE160 := n3_; clear n0_ n1_ n2_ n3_; clear hb hbox hg; have hcz4_0 : w3.cell? ⟨gb160, 0, none⟩ = some (.slice A0_0 l0_0.length c0_0) := (blk_cell BK160.out 0).trans rfl; have hcz4_1 : w3.cell? ⟨gb160, 1, none⟩ = some (.int .i64 a0_1) := (blk_cell BK160.out 1).trans rfl; have hcz4_2 : w3.cell? ⟨gb160, 2, none⟩ = some (.int .i64 a0_2) := (blk_cell BK160.out 2).trans rfl; have hcz4_3 : w3.cell? ⟨gb160, 3, none⟩ = some (.int .i64 a0_3) := (blk_cell BK160.out 3).trans rfl; have hfz4_0 := blk_frozen BK160.out 0; have hfz4_1 := blk_frozen BK160.out 1; have hfz4_2 := blk_frozen BK160.out 2; have hfz4_3 := blk_frozen BK160.out 3))
    go_ret
    exact ⟨by first | rfl | (simp [errW_none, errW_some] <;> rfl) | (simp [*, errW_none, errW_some] <;> rfl), by repeat (first | (with_reducible first | exact HB.out | apply below_alloc | apply pw_below_drewN | apply below_drew1 | refine below_set ?_ GE160.out) | exact HB.out)⟩
  · rw [if_neg c2] at H
    have c2b0 : ((l0_0.length : Int) == 0) = false := beq_eq_false_iff_ne.mpr c2
    have c2b1 : ((l0_0.length : Int) != 0) = true := bne_iff_ne.mpr c2
    have c2b2 : ¬ (l0_0 = []) := fun h_ => c2 (by rw [h_]; rfl)
    by_cases c5 : (l0_0.length : Int) > 20
    · rw [if_pos c5] at H
      have c5b0 : decide (20 < (l0_0.length : Int)) = true := decide_eq_true c5
      have c5b1 : decide (20 < l0_0.length) = true := decide_eq_true (by omega)
      clear c5
      obtain rfl := Option.some.inj H
      go_enter Try.func103, Try.ntmps103
      go_wp2_with (first | ((with_reducible refine gate_dst (N := 1) rfl ?_); refine box_event ?hg (N := 1) ?hd (cs := #[.slice A0_0 l0_0.length c0_0, .int .i64 a0_1, .int .i64 a0_2, .int .i64 a0_3]) (t := 87) ?hr ?_; (case hd => rfl); (case hg => rfl); (case hr => first | (go_simp; done) | (go_simp; rfl)); intro gb160 hg w6 hbox hb; have n0_ := Aside0.mk (below_step (by repeat (first | (with_reducible first | exact HB.out | apply below_alloc | apply pw_below_drewN | apply below_drew1) | exact HB.out)) hb); have n1_ := Aside0.mk (hbox); have n2_ := Aside0.mk ((by rw [hg]; exact (below_size (by repeat (first | (with_reducible first | exact HB.out | apply below_alloc | apply pw_below_drewN | apply below_drew1) | exact HB.out))) : w.heap.size ≤ gb160)); have n3_ := Aside0.mk ((by rw [hg]; exact (below_size (by repeat (first | (with_reducible first | exact HB.out | apply below_alloc | apply pw_below_drewN | apply below_drew1) | exact HB.out))) : w.heap.size ≤ gb160)); clear HB; have HB := n0_; have BK160 := n1_; have GW160 := n2_; have GE160 := n3_; clear n0_ n1_ n2_ n3_; clear hb hbox hg; have hcz7_0 : w6.cell? ⟨gb160, 0, none⟩ = some (.slice A0_0 l0_0.length c0_0) := (blk_cell BK160.out 0).trans rfl; have hcz7_1 : w6.cell? ⟨gb160, 1, none⟩ = some (.int .i64 a0_1) := (blk_cell BK160.out 1).trans rfl; have hcz7_2 : w6.cell? ⟨gb160, 2, none⟩ = some (.int .i64 a0_2) := (blk_cell BK160.out 2).trans rfl; have hcz7_3 : w6.cell? ⟨gb160, 3, none⟩ = some (.int .i64 a0_3) := (blk_cell BK160.out 3).trans rfl; have hfz7_0 := blk_frozen BK160.out 0; have hfz7_1 := blk_frozen BK160.out 1; have hfz7_2 := blk_frozen BK160.out 2; have hfz7_3 := blk_frozen BK160.out 3))
      go_ret
      exact ⟨by first | rfl | (simp [errW_none, errW_some] <;> rfl) | (simp [*, errW_none, errW_some] <;> rfl), by repeat (first | (with_reducible first | exact HB.out | apply below_alloc | apply pw_below_drewN | apply below_drew1 | refine below_set ?_ GE160.out) | exact HB.out)⟩
    · rw [if_neg c5] at H
      have c5b0 : decide (20 < (l0_0.length : Int)) = false := decide_eq_false c5
      have c5b1 : decide (20 < l0_0.length) = false := decide_eq_false (by omega)
      clear c5
      have H' := Aside0.mk H
      clear H
      go_enter Try.func103, Try.ntmps103
      go_wp2_with (first | ((with_reducible refine gate_dst (N := 1) rfl ?_); refine box_event ?hg (N := 1) ?hd (cs := #[.slice A0_0 l0_0.length c0_0, .int .i64 a0_1, .int .i64 a0_2, .int .i64 a0_3]) (t := 87) ?hr ?_; (case hd => rfl); (case hg => rfl); (case hr => first | (go_simp; done) | (go_simp; rfl)); intro gb160 hg w8 hbox hb; have n0_ := Aside0.mk (below_step (by repeat (first | (with_reducible first | exact HB.out | apply below_alloc | apply pw_below_drewN | apply below_drew1) | exact HB.out)) hb); have n1_ := Aside0.mk (hbox); have n2_ := Aside0.mk ((by rw [hg]; exact (below_size (by repeat (first | (with_reducible first | exact HB.out | apply below_alloc | apply pw_below_drewN | apply below_drew1) | exact HB.out))) : w.heap.size ≤ gb160)); have n3_ := Aside0.mk ((by rw [hg]; exact (below_size (by repeat (first | (with_reducible first | exact HB.out | apply below_alloc | apply pw_below_drewN | apply below_drew1) | exact HB.out))) : w.heap.size ≤ gb160)); clear HB; have HB := n0_; have BK160 := n1_; have GW160 := n2_; have GE160 := n3_; clear n0_ n1_ n2_ n3_; clear hb hbox hg; have hcz9_0 : w8.cell? ⟨gb160, 0, none⟩ = some (.slice A0_0 l0_0.length c0_0) := (blk_cell BK160.out 0).trans rfl; have hcz9_1 : w8.cell? ⟨gb160, 1, none⟩ = some (.int .i64 a0_1) := (blk_cell BK160.out 1).trans rfl; have hcz9_2 : w8.cell? ⟨gb160, 2, none⟩ = some (.int .i64 a0_2) := (blk_cell BK160.out 2).trans rfl; have hcz9_3 : w8.cell? ⟨gb160, 3, none⟩ = some (.int .i64 a0_3) := (blk_cell BK160.out 3).trans rfl; have hfz9_0 := blk_frozen BK160.out 0; have hfz9_1 := blk_frozen BK160.out 1; have hfz9_2 := blk_frozen BK160.out 2; have hfz9_3 := blk_frozen BK160.out 3))
      go_loopg [18] k (fun kq v18 w' => ∃ (x18_1 : Int), v18 = .int .i64 x18_1 ∧ Aside0 (pay_checkHedge.l0 kq l0_0 (l0_0.length : Int) x18_1 l0_0 a0_1 a0_2 a0_3 = some r) ∧ Aside0 (kq ≤ k) ∧ Aside0 (w'.heap[gb160]? = some (.cells #[(.slice A0_0 l0_0.length c0_0), .int .i64 a0_1, .int .i64 a0_2, .int .i64 a0_3] 87 (0, 0))) ∧ Aside0 (Below w.heap.size w w'))
      case atStart => exact ⟨(0), (by first | rfl | (simp; done) | (simp [*]; done)), H', ⟨Nat.le_refl _⟩, ⟨by (with_reducible repeat (first | refine blk_drewN ?_ _ | refine blk_drew ?_ | refine blk_alloc ?_ _)); exact BK160.out⟩, ⟨by repeat (first | (with_reducible first | exact HB.out | apply below_alloc | apply pw_below_drewN | apply below_drew1 | refine below_set ?_ GE160.out) | exact HB.out)⟩⟩
      case round =>
        clear H'
        try clear c1
        try clear c2
        try clear c2b0
        try clear c2b1
        try clear c2b2
        try clear p2
        try clear c5
        try clear c5b0
        try clear c5b1
        try clear hcz4_0
        try clear hcz4_1
        try clear hcz4_2
        try clear hcz4_3
        try clear hcz7_0
        try clear hcz7_1
        try clear hcz7_2
        try clear hcz7_3
        try clear hcz9_0
        try clear hcz9_1
        try clear hcz9_2
        try clear hcz9_3
        try clear hfz4_0
        try clear hfz4_1
        try clear hfz4_2
        try clear hfz4_3
        try clear hfz7_0
        try clear hfz7_1
        try clear hfz7_2
        try clear hfz7_3
        try clear hfz9_0
        try clear hfz9_1
        try clear hfz9_2
        try clear hfz9_3
        obtain ⟨x18_1, rfl, HA, HK1, BK160, HB⟩ := hrel
        cases gk with
        | zero => exact absurd HA.out (by simp [pay_checkHedge.l0])
        | succ k1 =>
          have H := HA.out
          clear HA
          simp only [pay_checkHedge.l0] at H
          by_cases c10 : x18_1 < (l0_0.length : Int)
          · rw [if_pos c10] at H
            have c10b0 : decide (x18_1 < (l0_0.length : Int)) = true := decide_eq_true c10
            clear c10
            by_cases c11 : 0 ≤ x18_1
            · rw [if_pos c11] at H
              have c11b0 : decide (0 ≤ x18_1) = true := decide_eq_true c11
              clear c11
              by_cases c12 : x18_1 < (l0_0.length : Int)
              · rw [if_pos c12] at H
                have c12b0 : decide (x18_1 < (l0_0.length : Int)) = true := decide_eq_true c12
                clear c12
                replace H := Option.bind_eq_some_iff.mp H
                obtain ⟨t163, A130, H⟩ := H
                replace H : (if t163 = true then ((pay_in.f ((rd_T24 l0_0 x18_1).f1) 0 1000000).bind fun t164 => (pay_checkHedge.j1 k1 l0_0 (l0_0.length : Int) x18_1 (!t164) l0_0 a0_1 a0_2 a0_3 ((rd_T24 l0_0 x18_1).f0) ((rd_T24 l0_0 x18_1).f1))) else (pay_checkHedge.j1 k1 l0_0 (l0_0.length : Int) x18_1 (!t163) l0_0 a0_1 a0_2 a0_3 ((rd_T24 l0_0 x18_1).f0) ((rd_T24 l0_0 x18_1).f1))) = some r := H
                have A13 := Aside0.mk A130
                clear A130
                have HC14 := Aside0.mk H
                clear H
                have p161 : 0 ≤ (x18_1 : Int) := of_decide_eq_true (by first | (with_reducible assumption) | assumption)
                have q161 : x18_1 < (l0_0.length : Int) := of_decide_eq_true (by first | (with_reducible assumption) | assumption)
                obtain ⟨ad161, e161, hx161_0, hx161_1⟩ := at_T24 HR0_0.out x18_1 p161 q161
                cases e161
                replace hx161_0 := (HB.out.cell (World.block_lt_of_cell? w _ hx161_0)).trans hx161_0
                replace hx161_1 := (HB.out.cell (World.block_lt_of_cell? w _ hx161_1)).trans hx161_1
                replace p161 := eq_true p161
                replace q161 := eq_true q161
                go_upto_if 22 with (first | ((with_reducible refine gate_dst (N := 4) rfl ?_); refine box_event ?hg (N := 4) ?hd (cs := #[.int .i64 0, .int .i64 0]) (t := 24) ?hr ?_; (case hd => rfl); (case hg => rfl); (case hr => first | (go_simp; done) | (go_simp; rfl)); intro gb162 hg w15 hbox hb; have n0_ := Aside0.mk (blk_below (g := gb160) (o := .cells #[.slice (some ad161) l0_0.length c0_0, .int .i64 a0_1, .int .i64 a0_2, .int .i64 a0_3] 87 (0, 0)) (by (with_reducible repeat (first | refine blk_drewN ?_ _ | refine blk_drew ?_ | refine blk_alloc ?_ _)); exact BK160.out) hb); have n1_ := Aside0.mk (below_step (by repeat (first | (with_reducible first | exact HB.out | apply below_alloc | apply pw_below_drewN | apply below_drew1 | refine below_set ?_ GE160.out) | exact HB.out)) hb); have n2_ := Aside0.mk (hbox); have n3_ := Aside0.mk ((by rw [hg]; exact (below_size (by repeat (first | (with_reducible first | exact HB.out | apply below_alloc | apply pw_below_drewN | apply below_drew1 | refine below_set ?_ GE160.out) | exact HB.out))) : w.heap.size ≤ gb162)); have n4_ := Aside0.mk ((by rw [hg]; exact (below_size (by repeat (first | (with_reducible first | exact HB.out | apply below_alloc | apply pw_below_drewN | apply below_drew1 | refine below_set ?_ GE160.out) | exact HB.out))) : w.heap.size ≤ gb162)); have n5_ := Aside0.mk ((by rw [hg]; exact Nat.ne_of_lt (blk_lt (g := gb160) (o := .cells #[.slice (some ad161) l0_0.length c0_0, .int .i64 a0_1, .int .i64 a0_2, .int .i64 a0_3] 87 (0, 0)) (by (with_reducible repeat (first | refine blk_drewN ?_ _ | refine blk_drew ?_ | refine blk_alloc ?_ _)); exact BK160.out)) : gb160 ≠ gb162)); have n6_ := Aside0.mk ((by rw [hg]; exact Nat.ne_of_gt (blk_lt (g := gb160) (o := .cells #[.slice (some ad161) l0_0.length c0_0, .int .i64 a0_1, .int .i64 a0_2, .int .i64 a0_3] 87 (0, 0)) (by (with_reducible repeat (first | refine blk_drewN ?_ _ | refine blk_drew ?_ | refine blk_alloc ?_ _)); exact BK160.out)) : gb162 ≠ gb160)); clear BK160; clear HB; have BK160 := n0_; have HB := n1_; have BK162 := n2_; have GW162 := n3_; have GE162 := n4_; have NB160_162 := n5_; have NB162_160 := n6_; clear n0_ n1_ n2_ n3_ n4_ n5_ n6_; clear hb hbox hg; have hnb16 := NB162_160.out; have hnc16 := NB160_162.out; have hcz17_0 : w15.cell? ⟨gb162, 0, none⟩ = some (.int .i64 0) := (blk_cell BK162.out 0).trans rfl; have hcz17_1 : w15.cell? ⟨gb162, 1, none⟩ = some (.int .i64 0) := (blk_cell BK162.out 1).trans rfl; have hfz17_0 := blk_frozen BK162.out 0; have hfz17_1 := blk_frozen BK162.out 1) | ((with_reducible refine gate_callee (f := 81) rfl ?_); refine goesL_ (some 25) rfl rfl Try.func81 (by kernel_rfl) rfl #[.int .i64 ((rd_T24 l0_0 x18_1).f0), .int .i64 0, .int .i64 1000000] rfl (by (try simp only [List.map_toArray, List.map_cons, List.map_nil]); first | done | rfl | (simp only [List.length_drop, List.length_take]; rfl)) ?_; (with_reducible refine (pay_in.calls ((rd_T24 l0_0 x18_1).f0) 0 1000000 t163 _ A13.out).mono ?_); rintro e w' ⟨rfl, ⟨nd, rfl⟩⟩; refine ⟨_, rfl, ?_⟩))
                (try simp only [Act.put, List.setIfInBounds_toArray, List.set_cons_zero, List.set_cons_succ])
                go_cut [22] (fun v22 wc => ∃ (kq : Nat) (x22_13 : Bool), v22 = .bool x22_13 ∧ Aside0 (pay_checkHedge.j1 kq l0_0 (l0_0.length : Int) x18_1 x22_13 l0_0 a0_1 a0_2 a0_3 ((rd_T24 l0_0 x18_1).f0) ((rd_T24 l0_0 x18_1).f1) = some r) ∧ Aside0 (kq ≤ k1) ∧ Aside0 (wc.heap[gb160]? = some (.cells #[(.slice (some ad161) l0_0.length c0_0), .int .i64 a0_1, .int .i64 a0_2, .int .i64 a0_3] 87 (0, 0))) ∧ Aside0 (wc.heap[gb162]? = some (.cells #[.int .i64 ((rd_T24 l0_0 x18_1).f0), .int .i64 ((rd_T24 l0_0 x18_1).f1)] 24 (0, 0))) ∧ Aside0 (Below w.heap.size w wc))
                case first =>
                  have H := HC14.out
                  clear HC14
                  by_cases c18 : t163 = true
                  · subst c18
                    have H1 : ((pay_in.f ((rd_T24 l0_0 x18_1).f1) 0 1000000).bind fun t164 => (pay_checkHedge.j1 k1 l0_0 (l0_0.length : Int) x18_1 (!t164) l0_0 a0_1 a0_2 a0_3 ((rd_T24 l0_0 x18_1).f0) ((rd_T24 l0_0 x18_1).f1))) = some r := by rw [if_pos rfl] at H; exact H
                    clear H
                    have H := H1
                    clear H1
                    replace H := Option.bind_eq_some_iff.mp H
                    obtain ⟨t164, A190, H⟩ := H
                    replace H : (pay_checkHedge.j1 k1 l0_0 (l0_0.length : Int) x18_1 (!t164) l0_0 a0_1 a0_2 a0_3 ((rd_T24 l0_0 x18_1).f0) ((rd_T24 l0_0 x18_1).f1)) = some r := H
                    have A19 := Aside0.mk A190
                    clear A190
                    have H' := Aside0.mk H
                    clear H
                    have hnb20 := NB162_160.out
                    have hnc20 := NB160_162.out
                    have hcz21_0 : w15.cell? ⟨gb162, 0, none⟩ = some (.int .i64 0) := (blk_cell BK162.out 0).trans rfl
                    have hcz21_1 : w15.cell? ⟨gb162, 1, none⟩ = some (.int .i64 0) := (blk_cell BK162.out 1).trans rfl
                    have hfz21_0 := blk_frozen BK162.out 0
                    have hfz21_1 := blk_frozen BK162.out 1
                    go_wp2_with (first | ((with_reducible refine gate_callee (f := 81) rfl ?_); refine goesL_ (some 29) rfl rfl Try.func81 (by kernel_rfl) rfl #[.int .i64 ((rd_T24 l0_0 x18_1).f1), .int .i64 0, .int .i64 1000000] rfl (by (try simp only [List.map_toArray, List.map_cons, List.map_nil]); first | done | rfl | (simp only [List.length_drop, List.length_take]; rfl)) ?_; (with_reducible refine (pay_in.calls ((rd_T24 l0_0 x18_1).f1) 0 1000000 t164 _ A19.out).mono ?_); rintro e w' ⟨rfl, ⟨nd, rfl⟩⟩; refine ⟨_, rfl, ?_⟩))
                    go_meet
                    case rel => exact ⟨_, (!t164), (by first | rfl | (simp; done) | (simp [*]; done)), H', ⟨by have := HK1.out; first | omega | exact Nat.le_refl _⟩, ⟨by (with_reducible repeat (first | refine blk_drewN ?_ _ | refine blk_drew ?_ | refine blk_alloc ?_ _)); refine blk_far ?_ NB160_162.out _; (with_reducible repeat (first | refine blk_drewN ?_ _ | refine blk_drew ?_ | refine blk_alloc ?_ _)); refine blk_far ?_ NB160_162.out _; (with_reducible repeat (first | refine blk_drewN ?_ _ | refine blk_drew ?_ | refine blk_alloc ?_ _)); exact BK160.out⟩, ⟨by (with_reducible repeat (first | refine blk_drewN ?_ _ | refine blk_drew ?_ | refine blk_alloc ?_ _)); refine blk_put (cs := #[.int .i64 ((rd_T24 l0_0 x18_1).f0), .int .i64 0]) ?_ 1 _ rfl; (with_reducible repeat (first | refine blk_drewN ?_ _ | refine blk_drew ?_ | refine blk_alloc ?_ _)); refine blk_put (cs := #[.int .i64 0, .int .i64 0]) ?_ 0 _ rfl; (with_reducible repeat (first | refine blk_drewN ?_ _ | refine blk_drew ?_ | refine blk_alloc ?_ _)); exact BK162.out⟩, ⟨by repeat (first | (with_reducible first | exact HB.out | apply below_alloc | apply pw_below_drewN | apply below_drew1 | refine below_set ?_ GE160.out | refine below_set ?_ GE162.out) | exact HB.out)⟩⟩
                  · replace c18 := Bool.eq_false_iff.mpr c18
                    subst c18
                    have H1 : (pay_checkHedge.j1 k1 l0_0 (l0_0.length : Int) x18_1 (!false) l0_0 a0_1 a0_2 a0_3 ((rd_T24 l0_0 x18_1).f0) ((rd_T24 l0_0 x18_1).f1)) = some r := by rw [if_neg (show ¬ (false = true) by decide)] at H; exact H
                    clear H
                    have H := H1
                    clear H1
                    have H' := Aside0.mk H
                    clear H
                    go_wp2
                    go_meet
                    case rel => exact ⟨_, (!false), (by first | rfl | (simp; done) | (simp [*]; done)), H', ⟨by have := HK1.out; first | omega | exact Nat.le_refl _⟩, ⟨by (with_reducible repeat (first | refine blk_drewN ?_ _ | refine blk_drew ?_ | refine blk_alloc ?_ _)); refine blk_far ?_ NB160_162.out _; (with_reducible repeat (first | refine blk_drewN ?_ _ | refine blk_drew ?_ | refine blk_alloc ?_ _)); refine blk_far ?_ NB160_162.out _; (with_reducible repeat (first | refine blk_drewN ?_ _ | refine blk_drew ?_ | refine blk_alloc ?_ _)); exact BK160.out⟩, ⟨by (with_reducible repeat (first | refine blk_drewN ?_ _ | refine blk_drew ?_ | refine blk_alloc ?_ _)); refine blk_put (cs := #[.int .i64 ((rd_T24 l0_0 x18_1).f0), .int .i64 0]) ?_ 1 _ rfl; (with_reducible repeat (first | refine blk_drewN ?_ _ | refine blk_drew ?_ | refine blk_alloc ?_ _)); refine blk_put (cs := #[.int .i64 0, .int .i64 0]) ?_ 0 _ rfl; (with_reducible repeat (first | refine blk_drewN ?_ _ | refine blk_drew ?_ | refine blk_alloc ?_ _)); exact BK162.out⟩, ⟨by repeat (first | (with_reducible first | exact HB.out | apply below_alloc | apply pw_below_drewN | apply below_drew1 | refine below_set ?_ GE160.out | refine below_set ?_ GE162.out) | exact HB.out)⟩⟩
                case rest =>
                  clear HC14
                  try clear c1
                  try clear p1
                  try clear q1
                  try clear hx1
                  try clear c2
                  try clear c2b0
                  try clear c2b1
                  try clear c2b2
                  try clear p2
                  try clear c5
                  try clear c5b0
                  try clear c5b1
                  try clear c8
                  try clear c10
                  try clear c10b0
                  try clear c11
                  try clear c11b0
                  try clear c12
                  try clear c12b0
                  try clear c16
                  try clear p16
                  try clear q16
                  try clear hx16
                  try clear c18
                  try clear c20
                  try clear hcz17_0
                  try clear hcz17_1
                  try clear hcz21_0
                  try clear hcz21_1
                  try clear hcz4_0
                  try clear hcz4_1
                  try clear hcz4_2
                  try clear hcz4_3
                  try clear hcz7_0
                  try clear hcz7_1
                  try clear hcz7_2
                  try clear hcz7_3
                  try clear hcz9_0
                  try clear hcz9_1
                  try clear hcz9_2
                  try clear hcz9_3
                  try clear hfz17_0
                  try clear hfz17_1
                  try clear hfz21_0
                  try clear hfz21_1
                  try clear hfz4_0
                  try clear hfz4_1
                  try clear hfz4_2
                  try clear hfz4_3
                  try clear hfz7_0
                  try clear hfz7_1
                  try clear hfz7_2
                  try clear hfz7_3
                  try clear hfz9_0
                  try clear hfz9_1
                  try clear hfz9_2
                  try clear hfz9_3
                  try clear hx161_0
                  try clear hx161_1
                  try clear p161
                  try clear p2
                  try clear q161
                  obtain ⟨kq, x22_13, rfl, HA, HJ13, BK160, BK162, HB⟩ := hcut
                  cases kq with
                  | zero => exact absurd HA.out (by simp [pay_checkHedge.j1])
                  | succ kj13 =>
                    have H := HA.out
                    clear HA
                    simp only [pay_checkHedge.j1] at H
                    by_cases c22 : x22_13 = true
                    · subst c22
                      have H1 : (some 1) = some r := by rw [if_pos rfl] at H; exact H
                      clear H
                      have H := H1
                      clear H1
                      obtain rfl := Option.some.inj H
                      go_wp2
                      go_ret
                      exact ⟨by first | rfl | (simp [errW_none, errW_some] <;> rfl) | (simp [*, errW_none, errW_some] <;> rfl), by repeat (first | (with_reducible first | exact HB.out | apply below_alloc | apply pw_below_drewN | apply below_drew1 | refine below_set ?_ GE160.out | refine below_set ?_ GE162.out) | exact HB.out)⟩
                    · replace c22 := Bool.eq_false_iff.mpr c22
                      subst c22
                      have H1 : (if ((rd_T24 l0_0 x18_1).f0) > ((rd_T24 l0_0 x18_1).f1) then (some 5) else (pay_checkHedge.l0 kj13 l0_0 (l0_0.length : Int) (wrap64 (x18_1 + 1)) l0_0 a0_1 a0_2 a0_3)) = some r := by rw [if_neg (show ¬ (false = true) by decide)] at H; exact H
                      clear H
                      have H := H1
                      clear H1
                      by_cases c23 : ((rd_T24 l0_0 x18_1).f0) > ((rd_T24 l0_0 x18_1).f1)
                      · rw [if_pos c23] at H
                        have c23b0 : decide (((rd_T24 l0_0 x18_1).f1) < ((rd_T24 l0_0 x18_1).f0)) = true := decide_eq_true c23
                        clear c23
                        obtain rfl := Option.some.inj H
                        have hnb24 := NB162_160.out
                        have hnc24 := NB160_162.out
                        have hcz25_0 : wc.cell? ⟨gb162, 0, none⟩ = some (.int .i64 ((rd_T24 l0_0 x18_1).f0)) := (blk_cell BK162.out 0).trans rfl
                        have hcz25_1 : wc.cell? ⟨gb162, 1, none⟩ = some (.int .i64 ((rd_T24 l0_0 x18_1).f1)) := (blk_cell BK162.out 1).trans rfl
                        have hfz25_0 := blk_frozen BK162.out 0
                        have hfz25_1 := blk_frozen BK162.out 1
                        go_wp2
                        go_ret
                        exact ⟨by first | rfl | (simp [errW_none, errW_some] <;> rfl) | (simp [*, errW_none, errW_some] <;> rfl), by repeat (first | (with_reducible first | exact HB.out | apply below_alloc | apply pw_below_drewN | apply below_drew1 | refine below_set ?_ GE160.out | refine below_set ?_ GE162.out) | exact HB.out)⟩
                      · rw [if_neg c23] at H
                        have c23b0 : decide (((rd_T24 l0_0 x18_1).f1) < ((rd_T24 l0_0 x18_1).f0)) = false := decide_eq_false c23
                        clear c23
                        have H' := Aside0.mk H
                        clear H
                        have hnb26 := NB162_160.out
                        have hnc26 := NB160_162.out
                        have hcz27_0 : wc.cell? ⟨gb162, 0, none⟩ = some (.int .i64 ((rd_T24 l0_0 x18_1).f0)) := (blk_cell BK162.out 0).trans rfl
                        have hcz27_1 : wc.cell? ⟨gb162, 1, none⟩ = some (.int .i64 ((rd_T24 l0_0 x18_1).f1)) := (blk_cell BK162.out 1).trans rfl
                        have hfz27_0 := blk_frozen BK162.out 0
                        have hfz27_1 := blk_frozen BK162.out 1
                        go_wp2
                        go_roundg kj13
                        case measure => have := HK1.out; have := HJ13.out; omega
                        case rel => exact ⟨(wrap64 (x18_1 + 1)), (by first | rfl | (simp; done) | (simp [*]; done)), H', ⟨by have := HK1.out; have := HJ13.out; omega⟩, ⟨by (with_reducible repeat (first | refine blk_drewN ?_ _ | refine blk_drew ?_ | refine blk_alloc ?_ _)); exact BK160.out⟩, ⟨by repeat (first | (with_reducible first | exact HB.out | apply below_alloc | apply pw_below_drewN | apply below_drew1 | refine below_set ?_ GE160.out | refine below_set ?_ GE162.out) | exact HB.out)⟩⟩
              · rw [if_neg c12] at H
                exact absurd H (by simp)
            · rw [if_neg c11] at H
              exact absurd H (by simp)
          · rw [if_neg c10] at H
            have c10b0 : decide (x18_1 < (l0_0.length : Int)) = false := decide_eq_false c10
            clear c10
            replace H := Option.bind_eq_some_iff.mp H
            obtain ⟨t165, A280, H⟩ := H
            replace H : (if t165 = true then ((pay_in.f a0_2 0 1000000).bind fun t166 => (if t166 = true then ((pay_in.f a0_3 0 50).bind fun t167 => (if t167 = true then (some 0) else (some 1))) else (some 1))) else (some 1)) = some r := H
            have A28 := Aside0.mk A280
            clear A280
            by_cases c29 : t165 = true
            · subst c29
              have H1 : ((pay_in.f a0_2 0 1000000).bind fun t166 => (if t166 = true then ((pay_in.f a0_3 0 50).bind fun t167 => (if t167 = true then (some 0) else (some 1))) else (some 1))) = some r := by rw [if_pos rfl] at H; exact H
              clear H
              have H := H1
              clear H1
              replace H := Option.bind_eq_some_iff.mp H
              obtain ⟨t166, A300, H⟩ := H
              replace H : (if t166 = true then ((pay_in.f a0_3 0 50).bind fun t167 => (if t167 = true then (some 0) else (some 1))) else (some 1)) = some r := H
              have A30 := Aside0.mk A300
              clear A300
              by_cases c31 : t166 = true
              · subst c31
                have H1 : ((pay_in.f a0_3 0 50).bind fun t167 => (if t167 = true then (some 0) else (some 1))) = some r := by rw [if_pos rfl] at H; exact H
                clear H
                have H := H1
                clear H1
                replace H := Option.bind_eq_some_iff.mp H
                obtain ⟨t167, A320, H⟩ := H
                replace H : (if t167 = true then (some 0) else (some 1)) = some r := H
                have A32 := Aside0.mk A320
                clear A320
                by_cases c33 : t167 = true
                · subst c33
                  have H1 : (some 0) = some r := by rw [if_pos rfl] at H; exact H
                  clear H
                  have H := H1
                  clear H1
                  obtain rfl := Option.some.inj H
                  have hcz34_0 : wr.cell? ⟨gb160, 0, none⟩ = some (.slice A0_0 l0_0.length c0_0) := (blk_cell BK160.out 0).trans rfl
                  have hcz34_1 : wr.cell? ⟨gb160, 1, none⟩ = some (.int .i64 a0_1) := (blk_cell BK160.out 1).trans rfl
                  have hcz34_2 : wr.cell? ⟨gb160, 2, none⟩ = some (.int .i64 a0_2) := (blk_cell BK160.out 2).trans rfl
                  have hcz34_3 : wr.cell? ⟨gb160, 3, none⟩ = some (.int .i64 a0_3) := (blk_cell BK160.out 3).trans rfl
                  have hfz34_0 := blk_frozen BK160.out 0
                  have hfz34_1 := blk_frozen BK160.out 1
                  have hfz34_2 := blk_frozen BK160.out 2
                  have hfz34_3 := blk_frozen BK160.out 3
                  go_wp2_with (first | ((with_reducible refine gate_callee (f := 81) rfl ?_); refine goesL_ (some 40) rfl rfl Try.func81 (by kernel_rfl) rfl #[.int .i64 a0_1, .int .i64 1, .int .i64 1000000] rfl (by (try simp only [List.map_toArray, List.map_cons, List.map_nil]); first | done | rfl | (simp only [List.length_drop, List.length_take]; rfl)) ?_; (with_reducible refine (pay_in.calls a0_1 1 1000000 true _ A28.out).mono ?_); rintro e w' ⟨rfl, ⟨nd, rfl⟩⟩; refine ⟨_, rfl, ?_⟩) | (go_at_call 81; (with_reducible refine (pay_in.calls a0_2 0 1000000 true _ A30.out).mono ?_); rintro e w' ⟨rfl, ⟨nd, rfl⟩⟩) | (go_at_call 81; (with_reducible refine (pay_in.calls a0_3 0 50 true _ A32.out).mono ?_); rintro e w' ⟨rfl, ⟨nd, rfl⟩⟩))
                  go_ret
                  exact ⟨by first | rfl | (simp [errW_none, errW_some] <;> rfl) | (simp [*, errW_none, errW_some] <;> rfl), by repeat (first | (with_reducible first | exact HB.out | apply below_alloc | apply pw_below_drewN | apply below_drew1 | refine below_set ?_ GE160.out) | exact HB.out)⟩
                · replace c33 := Bool.eq_false_iff.mpr c33
                  subst c33
                  have H1 : (some 1) = some r := by rw [if_neg (show ¬ (false = true) by decide)] at H; exact H
                  clear H
                  have H := H1
                  clear H1
                  obtain rfl := Option.some.inj H
                  have hcz35_0 : wr.cell? ⟨gb160, 0, none⟩ = some (.slice A0_0 l0_0.length c0_0) := (blk_cell BK160.out 0).trans rfl
                  have hcz35_1 : wr.cell? ⟨gb160, 1, none⟩ = some (.int .i64 a0_1) := (blk_cell BK160.out 1).trans rfl
                  have hcz35_2 : wr.cell? ⟨gb160, 2, none⟩ = some (.int .i64 a0_2) := (blk_cell BK160.out 2).trans rfl
                  have hcz35_3 : wr.cell? ⟨gb160, 3, none⟩ = some (.int .i64 a0_3) := (blk_cell BK160.out 3).trans rfl
                  have hfz35_0 := blk_frozen BK160.out 0
                  have hfz35_1 := blk_frozen BK160.out 1
                  have hfz35_2 := blk_frozen BK160.out 2
                  have hfz35_3 := blk_frozen BK160.out 3
                  go_wp2_with (first | ((with_reducible refine gate_callee (f := 81) rfl ?_); refine goesL_ (some 40) rfl rfl Try.func81 (by kernel_rfl) rfl #[.int .i64 a0_1, .int .i64 1, .int .i64 1000000] rfl (by (try simp only [List.map_toArray, List.map_cons, List.map_nil]); first | done | rfl | (simp only [List.length_drop, List.length_take]; rfl)) ?_; (with_reducible refine (pay_in.calls a0_1 1 1000000 true _ A28.out).mono ?_); rintro e w' ⟨rfl, ⟨nd, rfl⟩⟩; refine ⟨_, rfl, ?_⟩) | (go_at_call 81; (with_reducible refine (pay_in.calls a0_2 0 1000000 true _ A30.out).mono ?_); rintro e w' ⟨rfl, ⟨nd, rfl⟩⟩) | (go_at_call 81; (with_reducible refine (pay_in.calls a0_3 0 50 false _ A32.out).mono ?_); rintro e w' ⟨rfl, ⟨nd, rfl⟩⟩))
                  go_ret
                  exact ⟨by first | rfl | (simp [errW_none, errW_some] <;> rfl) | (simp [*, errW_none, errW_some] <;> rfl), by repeat (first | (with_reducible first | exact HB.out | apply below_alloc | apply pw_below_drewN | apply below_drew1 | refine below_set ?_ GE160.out) | exact HB.out)⟩
              · replace c31 := Bool.eq_false_iff.mpr c31
                subst c31
                have H1 : (some 1) = some r := by rw [if_neg (show ¬ (false = true) by decide)] at H; exact H
                clear H
                have H := H1
                clear H1
                obtain rfl := Option.some.inj H
                have hcz36_0 : wr.cell? ⟨gb160, 0, none⟩ = some (.slice A0_0 l0_0.length c0_0) := (blk_cell BK160.out 0).trans rfl
                have hcz36_1 : wr.cell? ⟨gb160, 1, none⟩ = some (.int .i64 a0_1) := (blk_cell BK160.out 1).trans rfl
                have hcz36_2 : wr.cell? ⟨gb160, 2, none⟩ = some (.int .i64 a0_2) := (blk_cell BK160.out 2).trans rfl
                have hcz36_3 : wr.cell? ⟨gb160, 3, none⟩ = some (.int .i64 a0_3) := (blk_cell BK160.out 3).trans rfl
                have hfz36_0 := blk_frozen BK160.out 0
                have hfz36_1 := blk_frozen BK160.out 1
                have hfz36_2 := blk_frozen BK160.out 2
                have hfz36_3 := blk_frozen BK160.out 3
                go_wp2_with (first | ((with_reducible refine gate_callee (f := 81) rfl ?_); refine goesL_ (some 40) rfl rfl Try.func81 (by kernel_rfl) rfl #[.int .i64 a0_1, .int .i64 1, .int .i64 1000000] rfl (by (try simp only [List.map_toArray, List.map_cons, List.map_nil]); first | done | rfl | (simp only [List.length_drop, List.length_take]; rfl)) ?_; (with_reducible refine (pay_in.calls a0_1 1 1000000 true _ A28.out).mono ?_); rintro e w' ⟨rfl, ⟨nd, rfl⟩⟩; refine ⟨_, rfl, ?_⟩) | (go_at_call 81; (with_reducible refine (pay_in.calls a0_2 0 1000000 false _ A30.out).mono ?_); rintro e w' ⟨rfl, ⟨nd, rfl⟩⟩))
                go_ret
                exact ⟨by first | rfl | (simp [errW_none, errW_some] <;> rfl) | (simp [*, errW_none, errW_some] <;> rfl), by repeat (first | (with_reducible first | exact HB.out | apply below_alloc | apply pw_below_drewN | apply below_drew1 | refine below_set ?_ GE160.out) | exact HB.out)⟩
            · replace c29 := Bool.eq_false_iff.mpr c29
              subst c29
              have H1 : (some 1) = some r := by rw [if_neg (show ¬ (false = true) by decide)] at H; exact H
              clear H
              have H := H1
              clear H1
              obtain rfl := Option.some.inj H
              have hcz37_0 : wr.cell? ⟨gb160, 0, none⟩ = some (.slice A0_0 l0_0.length c0_0) := (blk_cell BK160.out 0).trans rfl
              have hcz37_1 : wr.cell? ⟨gb160, 1, none⟩ = some (.int .i64 a0_1) := (blk_cell BK160.out 1).trans rfl
              have hcz37_2 : wr.cell? ⟨gb160, 2, none⟩ = some (.int .i64 a0_2) := (blk_cell BK160.out 2).trans rfl
              have hcz37_3 : wr.cell? ⟨gb160, 3, none⟩ = some (.int .i64 a0_3) := (blk_cell BK160.out 3).trans rfl
              have hfz37_0 := blk_frozen BK160.out 0
              have hfz37_1 := blk_frozen BK160.out 1
              have hfz37_2 := blk_frozen BK160.out 2
              have hfz37_3 := blk_frozen BK160.out 3
              go_wp2_with (first | ((with_reducible refine gate_callee (f := 81) rfl ?_); refine goesL_ (some 40) rfl rfl Try.func81 (by kernel_rfl) rfl #[.int .i64 a0_1, .int .i64 1, .int .i64 1000000] rfl (by (try simp only [List.map_toArray, List.map_cons, List.map_nil]); first | done | rfl | (simp only [List.length_drop, List.length_take]; rfl)) ?_; (with_reducible refine (pay_in.calls a0_1 1 1000000 false _ A28.out).mono ?_); rintro e w' ⟨rfl, ⟨nd, rfl⟩⟩; refine ⟨_, rfl, ?_⟩))
              go_ret
              exact ⟨by first | rfl | (simp [errW_none, errW_some] <;> rfl) | (simp [*, errW_none, errW_some] <;> rfl), by repeat (first | (with_reducible first | exact HB.out | apply below_alloc | apply pw_below_drewN | apply below_drew1 | refine below_set ?_ GE160.out) | exact HB.out)⟩
end Go.Proofs.Ytkdlbocjgbmbdaa.Print
