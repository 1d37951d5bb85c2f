import Derived.Test.YtkdlbocjgbmbdaaHe2
import Derived.Laws.EntriesVeiled
import Derived.Shelf.Strings.Search3
import Derived.Test.YtkdlbocjgbmbdaaProg
import Derived.Laws.OwnMore
import Derived.Deep.RegionHeld3
import Derived.Deep.DrawnRows
set_option linter.unusedVariables false
set_option linter.unusedSimpArgs false
namespace Go.Proofs.Ytkdlbocjgbmbdaa.Print
open Go.RowKit Go.Shelf Go.Proofs.YtkdlbocjgbmbdaaW.PrintWords
set_option linter.unusedVariables false
attribute [local go_sem] Oper.semAt_some
attribute [local go_sem] wide_fn wide_asked
def keptI (xs : List Bool) (names limit window : Int) (ds : List S61) : Bool :=
  (cashI ds ds.length).all fun i => (List.range names.toNat).all fun n => decide (paidV xs window ds (n : Int) ds[i].f0 ≤ limit)
section
variable {xs : List Bool} {names limit window : Int} {ds : List S61}
theorem paidM_some {x y v : Int} (h : paidM xs names window ds (cashI ds ds.length) x y = some v) : 0 ≤ x ∧ x < names ∧ (∃ i ∈ cashI ds ds.length, ds[i].f0 = y) ∧ v = paidV xs window ds x y := by
  unfold paidM at h
  cases hs : paidS names ds (cashI ds ds.length) x y with
  | false => rw [hs] at h; simp at h
  | true =>
    rw [hs] at h
    simp only [if_true, Option.some.injEq] at h
    simp only [paidS, Bool.and_eq_true, decide_eq_true_eq, List.any_eq_true] at hs
    exact ⟨hs.1.1, hs.1.2, hs.2, h.symm⟩
theorem keptI_true (hds : ∀ d ∈ ds, OkDue names d) (hn : names ≤ 8) (h : ∀ x y v, W64 x → W64 y → paidM xs names window ds (cashI ds ds.length) x y = some v → v ≤ limit) : keptI xs names limit window ds = true := by
  unfold keptI
  rw [List.all_eq_true]
  intro i hi
  rw [List.all_eq_true]
  intro n hn'
  have hlt := List.mem_range.1 hn'
  have hd := hds ds[i] (List.getElem_mem _)
  have h0 := hd.day0
  have h1 := hd.day1
  refine decide_eq_true (h n ds[i].f0 _ ⟨by omega, by omega⟩ ⟨by omega, by omega⟩ ?_)
  unfold paidM
  rw [if_pos]
  simp only [paidS, Bool.and_eq_true, decide_eq_true_eq, List.any_eq_true]
  exact ⟨⟨by omega, by omega⟩, i, hi, rfl⟩
theorem keptI_false {x y v : Int} (h : paidM xs names window ds (cashI ds ds.length) x y = some v) (hv : limit < v) : keptI xs names limit window ds = false := by
  obtain ⟨h0, h1, ⟨i, hi, rfl⟩, rfl⟩ := paidM_some h
  cases hk : keptI xs names limit window ds with
  | false => rfl
  | true =>
    unfold keptI at hk
    have := List.all_eq_true.1 (List.all_eq_true.1 hk i hi) x.toNat (List.mem_range.2 (by omega))
    have e : ((x.toNat : Nat) : Int) = x := by omega
    rw [e] at this
    have := of_decide_eq_true this
    omega
end
set_option maxRecDepth 100000 in
set_option maxHeartbeats 4000000 in
theorem kept_any (names limit window : Int) (vl vd : Value) (A : Option Addr) (c : Nat) (ds : List S61) (xs : List Bool) (w : World)
    (hC : Kd.C k61 w A ds.length ds) (hxs : xs.length = 64) (hw0 : 1 ≤ window) (hw1 : window ≤ 30) (hds : ∀ d ∈ ds, OkDue names d) (hn0 : 0 ≤ names) (hnames : names ≤ 8) (hlen : ds.length ≤ 1000) :
    Calls Try.prog 92 #[.agg #[.int .i64 names, .int .i64 limit, .int .i64 window, vl, vd], .slice A ds.length c, .agg (boolCells xs)] w fun e w' =>
      e = .returned (.bool (keptI xs names limit window ds)) ∧ Below w.heap.size w w' := by
  go_enter Try.func92, Try.ntmps92
  have HI : (Try.prog.info? 134).map (·.size) = some (boolCells xs).size := by rw [boolCells_size, hxs]; kernel_rfl
  have b1 : Blk ((w.alloc (.cells #[.int .i64 names, .int .i64 limit, .int .i64 window, vl, vd] 48)).alloc (.cells (boolCells xs) 134)) (w.heap.size + 1) 134 (boolCells xs) := blk_new' (by simp)
  go_wp2_with (first
    | ((with_reducible refine gate_dst (N := 11) rfl ?_); refine ev_load_row (N := 11) rfl rfl 134 _ rfl (w.heap.size + 1) rfl (t := 134) (cs := boolCells xs) b1 Try.underlying134 HI ?_)
    | (go_at_call 127; refine (paid_any names limit window vl vd A c ds xs _ (Kd.C_below hC ?hb) hxs hw0 hw1 hds hn0 hnames hlen).mono ?_; rotate_left; rintro e w1 ⟨b, rfl, hm, hb, hB⟩)
    | (at_range; refine p_range rfl _ rfl rfl hm ?_; intro W1 cnt hr hg hs))
  case hb => repeat (first | exact Below.refl _ _ | refine below_alloc ?_ _)
  have z0 : Blk W1 w.heap.size 48 #[.int .i64 names, .int .i64 limit, .int .i64 window, vl, vd] := (((blk_new w 48 _).alloc _).below hB (by simp; omega)).grown hg (by simp)
  have zB : Below w.heap.size w W1 := (((below_alloc (below_alloc (Below.refl _ _) _) _).trans (hB.mono (by simp; omega)))).grown hg (by have := hB.size; simp at this; omega) (fun j e => by cases e)
  have hbs : w.heap.size + 2 ≤ b := by simpa using hb
  have hw1s : w.heap.size + 2 ≤ w1.heap.size := by have := hB.size; simpa using this
  generalize hr1 : w1.heap.size = r at *
  clear hm hB hg hs hb b1
  go_frame
  go_loopw [8] (fun _ wr => ∃ left cnt, IRng wr b r 8000 (paidM xs names window ds (cashI ds ds.length)) left cnt ∧ Hid (∀ x y v, W64 x → W64 y → paidM xs names window ds (cashI ds ds.length) x y = some v → left x y = false → v ≤ limit) ∧ Blk wr w.heap.size 48 #[.int .i64 names, .int .i64 limit, .int .i64 window, vl, vd] ∧ Below w.heap.size w wr) (fun _ wr => wr.rangeLeft b r)
  · exact ⟨_, _, hr, fun x y v _ _ h1 h2 => (by rw [h1] at h2; cases h2), z0, zB⟩
  · obtain ⟨left, cnt1, hrg, hI, n0, nB⟩ := hrel
    go_wp2_with (at_next; refine p_next rfl _ rfl rfl hrg (fun hD => ?_) (fun x y v W' cnt' hx hy hv hl hmv hrg' hlt hgr hsz hen => ?_); rotate_left; (have c1 := (n0.grown hgr (by simp; omega)).cell 1 rfl); rcases Int.lt_or_le limit v with hc | hc)
    · go_ret
      have hne := hrg.ne
      exact ⟨by rw [keptI_false hmv hc]; rfl, nB.grown hgr (by have := nB.size; omega) (fun j e => by cases e; omega)⟩
    · have hne := hrg.ne
      refine ⟨⟨_, _, hrg', fun x' y' v' hx' hy' hm' hl' => ?_, n0.grown hgr (by simp; omega), nB.grown hgr (by have := nB.size; omega) (fun j e => by cases e; omega)⟩, by rw [hrg'.left_eq, hrg.left_eq]; exact hlt⟩
      cases hlf : left x' y' with
      | false => exact hI.out x' y' v' hx' hy' hm' hlf
      | true =>
        rw [hlf] at hl'
        simp only [Bool.true_and, Bool.not_eq_false', Bool.and_eq_true, decide_eq_true_eq] at hl'
        obtain ⟨rfl, rfl⟩ := hl'
        rw [hmv] at hm'
        cases hm'
        exact hc
    · go_ret
      exact ⟨by rw [keptI_true hds hnames (fun x y v hx hy h => hI.out x y v hx hy h (hD x y hx hy))]; rfl, nB⟩
end Go.Proofs.Ytkdlbocjgbmbdaa.Print

namespace Go.Proofs.Ytkdlbocjgbmbdaa.Print
open Go.RowKit Go.Shelf Go.Proofs.YtkdlbocjgbmbdaaW.PrintWords
set_option linter.unusedVariables false
attribute [local go_sem] Oper.semAt_some
attribute [local go_sem] wide_fn wide_asked
structure TillOk (names limit window : Int) (ls : List S84) (ds : List S61) : Prop where
  n1 : 1 ≤ names
  n8 : names ≤ 8
  l0 : 0 ≤ limit
  l1 : limit ≤ 100000000
  w1 : 1 ≤ window
  w2 : window ≤ 30
  links : ∀ l ∈ ls, OkLink names l
  dues : ∀ d ∈ ds, OkDue names d
  few : ls.length ≤ 10
  fewd : ds.length ≤ 20
  rising : ∀ i, i + 1 < ds.length → (ds.getD i z61).f0 ≤ (ds.getD (i + 1) z61).f0
theorem inB_true {n a b : Int} (h : ¬ inB n a b = false) : a ≤ n ∧ n ≤ b := by
  have : inB n a b = true := by simpa using h
  simpa [inB] using this
theorem tillE_ok {names limit window : Int} {ls : List S84} {ds : List S61} (h : tillE names limit window ls ds = 0) : TillOk names limit window ls ds := by
  unfold tillE at h
  split at h
  · cases h
  split at h
  · cases h
  split at h
  · cases h
  rename_i h3
  split at h
  · cases h
  rename_i h4
  split at h
  · cases h
  unfold restE at h
  split at h
  · rename_i h6; exact absurd h h6
  rename_i h6
  have h6 : linksE names ls = 0 := by simpa using h6
  split at h
  · cases h
  have hl := firstE_zero _ _ h6
  have hd := firstE_zero _ _ h
  have := inB_true h3
  have := inB_true h4
  refine ⟨by omega, by omega, by omega, by omega, by omega, by omega, fun l hl' => ?_, fun d hd' => ?_, by omega, by omega, fun i hi => ?_⟩
  · obtain ⟨k, hk, rfl⟩ := List.getElem_of_mem hl'
    have := hl k hk
    rw [List.getD_eq_getElem?_getD, List.getElem?_eq_getElem hk] at this
    simp only [Option.getD_some] at this
    unfold linkE at this
    split at this
    · cases this
    rename_i g1
    split at this
    · cases this
    rename_i g2
    split at this
    · cases this
    rename_i g3
    have := inB_true g1
    have := inB_true g2
    exact ⟨by simpa using g3, by omega, by omega, by omega, by omega⟩
  · obtain ⟨k, hk, rfl⟩ := List.getElem_of_mem hd'
    have := hd k hk
    rw [List.getD_eq_getElem?_getD (i := k), List.getElem?_eq_getElem hk] at this
    simp only [Option.getD_some] at this
    unfold dueE at this
    split at this
    · cases this
    rename_i g1
    split at this
    · cases this
    split at this
    · cases this
    rename_i g2
    split at this
    · cases this
    rename_i g3
    have := inB_true g1
    have := inB_true g2
    have := inB_true g3
    exact ⟨by omega, by omega, by omega, by omega, by omega, by omega⟩
  · have := hd (i + 1) hi
    unfold dueE at this
    split at this
    · cases this
    split at this
    · cases this
    rename_i g1
    simp only [Nat.add_sub_cancel] at g1
    omega
def keptT (all : Bool) (names limit window : Int) (ls : List S84) (ds : List S61) : Bool := keptI (tiesL all ls) names limit window ds
def lawfulR (names limit window : Int) (ls : List S84) (ds : List S61) : Int × Int :=
  if tillE names limit window ls ds ≠ 0 then (0, tillE names limit window ls ds) else if keptT true names limit window ls ds = true then (1, 0) else if keptT false names limit window ls ds = true then (3, 0) else (2, 0)
set_option maxRecDepth 100000 in
set_option maxHeartbeats 8000000 in
theorem lawful_any (names limit window : Int) (A0 : Option Addr) (c0 : Nat) (ls : List S84) (A1 : Option Addr) (c1 : Nat) (ds : List S61) (w : World)
    (hl : Kd.C k84 w A0 ls.length ls) (hlc : ls.length ≤ c0) (hd : Kd.C k61 w A1 ds.length ds) :
    Calls Try.prog 38 #[.agg #[.int .i64 names, .int .i64 limit, .int .i64 window, .slice A0 ls.length c0, .slice A1 ds.length c1]] w fun e w' =>
      e = .returned (.tuple #[.int .i64 (lawfulR names limit window ls ds).1, .int .i64 (lawfulR names limit window ls ds).2]) ∧ Below w.heap.size w w' := by
  obtain ⟨t, ht⟩ : ∃ t, t = tillE names limit window ls ds := ⟨_, rfl⟩
  have HT : Hid (t = tillE names limit window ls ds) := ht
  by_cases h0 : t = 0
  · have hok : TillOk names limit window ls ds := tillE_ok (by rw [← ht]; exact h0)
    clear ht
    go_enter Try.func38, Try.ntmps38
    go_wp2_with (first
      | (go_at_call 73; refine (check73_any names limit window A0 c0 ls A1 c1 ds _ (Kd.C_below hl ?_) hlc (Kd.C_below hd ?_)).mono ?_; rotate_left; rotate_left; rintro e w1 ⟨rfl, hB⟩; rw [← HT.out, h0]))
    rotate_left
    · exact below_alloc (Below.refl _ _) _
    · exact below_alloc (Below.refl _ _) _
    have b0 : Blk w1 w.heap.size 48 #[.int .i64 names, .int .i64 limit, .int .i64 window, .slice A0 ls.length c0, .slice A1 ds.length c1] := (blk_new w 48 _).below hB (by simp)
    have hl1 := Kd.C_below hl ((below_alloc (Below.refl _ _) _).trans (hB.mono (by simp)))
    have hd1 := Kd.C_below hd ((below_alloc (Below.refl _ _) _).trans (hB.mono (by simp)))
    have hB1 : Below w.heap.size w w1 := (below_alloc (Below.refl _ _) _).trans (hB.mono (by simp))
    clear hB
    have e0 := ext_cell (b0.cell 0 rfl)
    have e1 := ext_cell (b0.cell 1 rfl)
    have e2 := ext_cell (b0.cell 2 rfl)
    have e3 := ext_cell (b0.cell 3 rfl)
    have e4 := ext_cell (b0.cell 4 rfl)
    cases hk1 : keptI (tiesL true ls) names limit window ds with
    | true =>
      refine wp_region_ext (by kernel_rfl) (by kernel_rfl) ?_
      repeat (gi_big_quiet_step ((rename_i x; first
        | exact callsIn_wide.2 ((tiesOf_any names limit window A0 c0 ls (.slice A1 ds.length c1) true x.1 (Kd.C_below hl1 x.2) hok.links hok.n8).mono fun e w' h => ⟨h.1, ext_go h.2⟩)
        | exact callsIn_wide.2 ((kept_any names limit window _ _ A1 c1 ds (tiesL true ls) x.1 (Kd.C_below hd1 x.2) (tiesL_len _ _) hok.w1 hok.w2 hok.dues (by have := hok.n1; omega) hok.n8 (by have := hok.fewd; omega)).mono fun e w' h => ⟨h.1.trans (by rw [hk1]), ext_go h.2⟩))))
      refine wpQuietIn_nil ?_
      rintro _ ⟨⟨W2, hx⟩, rfl⟩
      have HR : Hid (lawfulR names limit window ls ds = (1, 0)) := by
        show lawfulR names limit window ls ds = (1, 0)
        rw [lawfulR, ← HT.out, h0, if_neg (by simp), keptT, hk1, if_pos rfl]
      go_wp2
      go_ret2
      exact ⟨by rw [HR.out]; rfl, hB1.trans (hx.mono hB1.size)⟩
    | false =>
      refine wp_region_ext (by kernel_rfl) (by kernel_rfl) ?_
      repeat (gi_big_quiet_step ((rename_i x; first
        | exact callsIn_wide.2 ((tiesOf_any names limit window A0 c0 ls (.slice A1 ds.length c1) true x.1 (Kd.C_below hl1 x.2) hok.links hok.n8).mono fun e w' h => ⟨h.1, ext_go h.2⟩)
        | exact callsIn_wide.2 ((kept_any names limit window _ _ A1 c1 ds (tiesL true ls) x.1 (Kd.C_below hd1 x.2) (tiesL_len _ _) hok.w1 hok.w2 hok.dues (by have := hok.n1; omega) hok.n8 (by have := hok.fewd; omega)).mono fun e w' h => ⟨h.1.trans (by rw [hk1]), ext_go h.2⟩))))
      refine wpQuietIn_nil ?_
      rintro _ ⟨⟨W2, hx⟩, rfl⟩
      replace hl1 := Kd.C_below hl1 hx
      replace hd1 := Kd.C_below hd1 hx
      replace b0 := b0.below hx b0.lt
      replace hB1 := hB1.trans (hx.mono hB1.size)
      clear e0 e1 e2 e3 e4 hx
      have e0 := ext_cell (b0.cell 0 rfl)
      have e1 := ext_cell (b0.cell 1 rfl)
      have e2 := ext_cell (b0.cell 2 rfl)
      have e3 := ext_cell (b0.cell 3 rfl)
      have e4 := ext_cell (b0.cell 4 rfl)
      go_wp2
      cases hk2 : keptI (tiesL false ls) names limit window ds with
      | true =>
        refine wp_region_ext (by kernel_rfl) (by kernel_rfl) ?_
        repeat (gi_big_quiet_step ((rename_i x; first
          | exact callsIn_wide.2 ((tiesOf_any names limit window A0 c0 ls (.slice A1 ds.length c1) false x.1 (Kd.C_below hl1 x.2) hok.links hok.n8).mono fun e w' h => ⟨h.1, ext_go h.2⟩)
          | exact callsIn_wide.2 ((kept_any names limit window _ _ A1 c1 ds (tiesL false ls) x.1 (Kd.C_below hd1 x.2) (tiesL_len _ _) hok.w1 hok.w2 hok.dues (by have := hok.n1; omega) hok.n8 (by have := hok.fewd; omega)).mono fun e w' h => ⟨h.1.trans (by rw [hk2]), ext_go h.2⟩))))
        refine wpQuietIn_nil ?_
        rintro _ ⟨⟨W2, hx⟩, rfl⟩
        have HR : Hid (lawfulR names limit window ls ds = (3, 0)) := by
          show lawfulR names limit window ls ds = (3, 0)
          rw [lawfulR, ← HT.out, h0, if_neg (by simp), keptT, hk1, if_neg (by simp), keptT, hk2, if_pos rfl]
        go_wp2
        go_ret2
        exact ⟨by rw [HR.out]; rfl, hB1.trans (hx.mono hB1.size)⟩
      | false =>
        refine wp_region_ext (by kernel_rfl) (by kernel_rfl) ?_
        repeat (gi_big_quiet_step ((rename_i x; first
          | exact callsIn_wide.2 ((tiesOf_any names limit window A0 c0 ls (.slice A1 ds.length c1) false x.1 (Kd.C_below hl1 x.2) hok.links hok.n8).mono fun e w' h => ⟨h.1, ext_go h.2⟩)
          | exact callsIn_wide.2 ((kept_any names limit window _ _ A1 c1 ds (tiesL false ls) x.1 (Kd.C_below hd1 x.2) (tiesL_len _ _) hok.w1 hok.w2 hok.dues (by have := hok.n1; omega) hok.n8 (by have := hok.fewd; omega)).mono fun e w' h => ⟨h.1.trans (by rw [hk2]), ext_go h.2⟩))))
        refine wpQuietIn_nil ?_
        rintro _ ⟨⟨W2, hx⟩, rfl⟩
        have HR : Hid (lawfulR names limit window ls ds = (2, 0)) := by
          show lawfulR names limit window ls ds = (2, 0)
          rw [lawfulR, ← HT.out, h0, if_neg (by simp), keptT, hk1, if_neg (by simp), keptT, hk2, if_neg (by simp)]
        go_wp2
        go_ret2
        exact ⟨by rw [HR.out]; rfl, hB1.trans (hx.mono hB1.size)⟩
  · have HR : Hid (lawfulR names limit window ls ds = (0, t)) := by
      show lawfulR names limit window ls ds = (0, t)
      rw [lawfulR, ← ht, if_pos h0]
    clear ht
    go_enter Try.func38, Try.ntmps38
    go_wp2_with (first
      | (go_at_call 73; refine (check73_any names limit window A0 c0 ls A1 c1 ds _ (Kd.C_below hl ?_) hlc (Kd.C_below hd ?_)).mono ?_; rotate_left; rotate_left; rintro e w1 ⟨rfl, hB⟩; rw [← HT.out]))
    · go_ret2
      exact ⟨by rw [HR.out]; rfl, (below_alloc (Below.refl _ _) _).trans (hB.mono (by simp))⟩
    · exact below_alloc (Below.refl _ _) _
    · exact below_alloc (Below.refl _ _) _
end Go.Proofs.Ytkdlbocjgbmbdaa.Print

namespace Go.Proofs.Ytkdlbocjgbmbdaa.Print
open Go.RowKit Go.Shelf Go.Proofs.YtkdlbocjgbmbdaaW.PrintWords
set_option linter.unusedVariables false
attribute [local go_sem] Oper.semAt_some
attribute [local go_sem] wide_fn wide_asked
def tagE (before : List S77) (t : S77) : Int := if readsB false t.f0 = false then 2 else if inB t.f1 0 60 = false then 1 else if hasCode before t = true then 4 else 0
def tagsE (ls : List S77) : Int := firstE (fun k => tagE (ls.take k) (ls.getD k z77)) ls.length
def readE (rs : List ByteArray) (r : ByteArray) : Int := if readsB true r = false then 2 else if ((r.size : Int) == ((rs.getD 0 ByteArray.empty).size : Int)) = false then 2 else 0
def readsE (rs : List ByteArray) : Int := firstE (fun k => readE rs (rs.getD k ByteArray.empty)) rs.length
def goods2E (rs : List ByteArray) : Int := if readsE rs ≠ 0 then readsE rs else if (mergedS rs).2 = false then 9 else 0
def goods1E (rs : List ByteArray) : Int := if (rs.length : Int) = 0 then 7 else if (4 : Int) < rs.length then 6 else goods2E rs
def goodsE (ls : List S77) (rs : List ByteArray) : Int := if (12 : Int) < ls.length then 6 else if tagsE ls ≠ 0 then tagsE ls else goods1E rs
theorem readsB_size {m : Bool} {s : ByteArray} (h : readsB m s = true) : s.size ≤ 8 := by
  unfold readsB inB at h
  simp only [Bool.and_eq_true, decide_eq_true_eq] at h
  omega
theorem readsE_ok {rs : List ByteArray} (hno : ∀ j, j < rs.length → readE rs (rs.getD j ByteArray.empty) = 0) : ∀ r ∈ rs, readsB true r = true ∧ r.size = (rs.getD 0 ByteArray.empty).size := by
  intro r hr
  obtain ⟨k, hk, rfl⟩ := List.getElem_of_mem hr
  have := hno k hk
  rw [List.getD_eq_getElem?_getD (i := k), List.getElem?_eq_getElem hk] at this
  simp only [Option.getD_some] at this
  unfold readE at this
  split at this
  · cases this
  rename_i h1
  split at this
  · cases this
  rename_i h2
  refine ⟨by simpa using h1, ?_⟩
  have h2 : ((rs[k].size : Int) == ((rs.getD 0 ByteArray.empty).size : Int)) = true := by simpa using h2
  have h3 := eq_of_beq h2
  omega
set_option maxRecDepth 100000 in
set_option maxHeartbeats 8000000 in
theorem goods_any (A0 : Option Addr) (c0 : Nat) (ls : List S77) (A1 : Option Addr) (c1 : Nat) (rs : List ByteArray) (w : World)
    (hl : Kd.C k77 w A0 ls.length ls) (hlc : ls.length ≤ c0) (hr : Kd.C Kd.string w A1 rs.length rs) :
    Calls Try.prog 93 #[.slice A0 ls.length c0, .slice A1 rs.length c1] w fun e w' => e = .returned (.int .i64 (goodsE ls rs)) ∧ Below w.heap.size w w' := by
  have hmax := Kd.C_max hl
  have hmax1 := Kd.C_max hr
  by_cases h0 : (12 : Int) < ls.length
  · go_enter Try.func93, Try.ntmps93
    go_wp2
    go_ret
    exact ⟨by rw [goodsE, if_pos h0]; rfl, Below.refl _ _⟩
  · have HE : Hid (goodsE ls rs = if tagsE ls ≠ 0 then tagsE ls else goods1E rs) := by show goodsE ls rs = _; rw [goodsE, if_neg h0]
    have h0' : (ls.length : Int) ≤ 12 := by omega
    clear h0
    go_enter Try.func93, Try.ntmps93
    go_wp2
    go_loopw [17] (fun i wr => ∃ k : Nat, k ≤ ls.length ∧ i = .int .i64 k ∧ Hid (∀ j, j < k → tagE (ls.take j) (ls.getD j z77) = 0) ∧ Below w.heap.size w wr) (fun i _ => ls.length - (intOf i).toNat)
    · exact ⟨0, Nat.zero_le _, rfl, fun j hj => absurd hj (by omega), Below.refl _ _⟩
    · obtain ⟨k, hk, rfl, hno, hnx⟩ := hrel
      by_cases hlt : k < ls.length
      · obtain ⟨ad, hA, p0, p1⟩ := at_T77 (Kd.C_below hl hnx) k (by omega) (by omega)
        subst hA
        simp only [Int.toNat_natCast] at p0 p1
        rw [rd_T77_at ls k hlt] at p0 p1
        obtain ⟨d, hd⟩ : ∃ d, d = ls[k] := ⟨_, rfl⟩
        rw [← hd] at p0 p1
        have HG : Hid (ls.getD k z77 = d) := by show ls.getD k z77 = d; rw [hd]; simp [List.getD_eq_getElem?_getD, List.getElem?_eq_getElem hlt]
        clear hd
        have hB1 := below_alloc' hnx (.cells (tagV d) 77)
        have b1 : Blk (wr.alloc (.cells (tagV d) 77)) wr.heap.size 77 (tagV d) := blk_new _ _ _
        have hz := hnx.size
        have hend : ∀ e : Int, tagE (ls.take k) d = e → e ≠ 0 → Hid (goodsE ls rs = e) := fun e he hne => by
          have h1 : tagsE ls = e := firstE_yes (fun k => tagE (ls.take k) (ls.getD k z77)) k e (by rw [HG.out]; exact he) hne hno.out _ hlt
          show goodsE ls rs = e
          rw [HE.out, h1, if_pos hne]
        have HEND := Lib.hid hend
        clear hend
        have CALL : ∀ (s : ByteArray) (W : World), Calls Try.prog 129 #[.agg #[.func (.func 128) #[] #[]], .string s] W fun e w' => e = .returned (.bool (readsB false s)) ∧ Below W.heap.size W w' := fun s W => reads_any false s W
        cases g1 : readsB false d.f0 with
        | false =>
          have HR := HEND.out 2 (by rw [tagE, if_pos g1]) (by omega)
          have q0 := b1.cell 0 rfl
          go_wp2_with (go_at_call 129; refine (CALL _ _).mono ?_; rw [g1]; rintro e w1 ⟨rfl, hB⟩)
          go_ret
          exact ⟨by rw [HR.out]; rfl, hB1.trans (hB.mono (by simp; omega))⟩
        | true =>
          cases g2 : inB d.f1 0 60 with
          | false =>
            have HR := HEND.out 1 (by rw [tagE, g1, if_neg (by simp), if_pos g2]) (by omega)
            have q0 := b1.cell 0 rfl
            go_wp2_with (first
              | (go_at_call 129; refine (CALL _ _).mono ?_; rw [g1]; rintro e w1 ⟨rfl, hB⟩; have q1 := (b1.below hB (by simp)).cell 1 rfl)
              | (go_at_call 81; refine (in_any _ _ _ _).mono ?_; rintro e w' ⟨rfl, rfl⟩))
            go_ret
            exact ⟨by rw [HR.out]; rfl, hB1.trans (hB.mono (by simp; omega))⟩
          | true =>
            have hkc : k ≤ c0 := by omega
            have hckA : Kd.C k77 (wr.alloc (.cells (tagV d) 77)) (some ad) k (ls.take k) := kC_take (Kd.C_alloc (Kd.C_below hl hnx) _) k hk
            cases g4 : hasCode (ls.take k) d with
            | true =>
              have HR := HEND.out 4 (by rw [tagE, g1, if_neg (by simp), g2, if_neg (by simp), if_pos g4]) (by omega)
              have q0 := b1.cell 0 rfl
              go_wp2_with (first
                | (go_at_call 129; refine (CALL _ _).mono ?_; rw [g1]; rintro e w1 ⟨rfl, hB⟩; have b2 := b1.below hB (by simp); have q1 := b2.cell 1 rfl; have hck := Kd.C_below hckA hB)
                | (go_at_call 81; refine (in_any _ _ _ _).mono ?_; rintro e w' ⟨rfl, rfl⟩)
                | (go_at_call 130; refine (contains130_any _ _ _ _ _ _ _ hck b2).mono ?_; rw [g4]; rintro e w2 ⟨rfl, hb2⟩))
              go_ret
              exact ⟨by rw [HR.out]; rfl, (hB1.trans (hB.mono (by simp; omega))).trans (hb2.mono (by have := hB.size; simp at this; omega))⟩
            | false =>
              have HZ : Hid (tagE (ls.take k) (ls.getD k z77) = 0) := by
                show _ = _
                rw [HG.out, tagE, g1, if_neg (by simp), g2, if_neg (by simp), g4, if_neg (by simp)]
              have q0 := b1.cell 0 rfl
              go_wp2_with (first
                | (go_at_call 129; refine (CALL _ _).mono ?_; rw [g1]; rintro e w1 ⟨rfl, hB⟩; have b2 := b1.below hB (by simp); have q1 := b2.cell 1 rfl; have hck := Kd.C_below hckA hB)
                | (go_at_call 81; refine (in_any _ _ _ _).mono ?_; rintro e w' ⟨rfl, rfl⟩)
                | (go_at_call 130; refine (contains130_any _ _ _ _ _ _ _ hck b2).mono ?_; rw [g4]; rintro e w2 ⟨rfl, hb2⟩))
              go_roundw
              case rel => exact ⟨k + 1, by omega, by go_num, fun j hj => by
                rcases Nat.lt_or_ge j k with h | h
                · exact hno.out j h
                · obtain rfl : j = k := by omega
                  exact HZ.out, (hB1.trans (hB.mono (by simp; omega))).trans (hb2.mono (by have := hB.size; simp at this; omega))⟩
              case measure => simp [intOf]; omega
      · obtain rfl : k = ls.length := by omega
        have HT : tagsE ls = 0 := firstE_no _ _ hno.out
        have HE1 : Hid (goodsE ls rs = goods1E rs) := by show _ = _; rw [HE.out, HT, if_neg (by simp)]
        clear HE HT hno
        have hr1 := Kd.C_below hr hnx
        have hz0 := hnx.size
        cases h1 : ((rs.length : Int) == 0) with
        | true =>
          go_wp2
          go_ret
          exact ⟨by rw [HE1.out, goods1E, if_pos (by simpa using h1)]; rfl, hnx⟩
        | false =>
          have h1' : ¬ (rs.length : Int) = 0 := by simpa using h1
          have h1'' : 0 < rs.length := by omega
          by_cases h2 : (4 : Int) < rs.length
          · go_wp2
            go_ret
            exact ⟨by rw [HE1.out, goods1E, if_neg h1', if_pos h2]; rfl, hnx⟩
          · have HE2 : Hid (goodsE ls rs = goods2E rs) := by show _ = _; rw [HE1.out, goods1E, if_neg h1', if_neg h2]
            clear HE1 h1'
            have CALL : ∀ (s : ByteArray) (W : World), Calls Try.prog 129 #[.agg #[.func (.func 132) #[] #[]], .string s] W fun e w' => e = .returned (.bool (readsB true s)) ∧ Below W.heap.size W w' := fun s W => reads_any true s W
            go_wp2
            have bR := blk_new wr 182 #[.func (.func 132) #[] #[]]
            have BR := below_alloc' hnx (.cells #[.func (.func 132) #[] #[]] 182)
            generalize wr.alloc (.cells #[.func (.func 132) #[] #[]] 182) = WR at *
            have hzr : w.heap.size ≤ wr.heap.size := hz0
            generalize hKR : wr.heap.size = KR at *
            obtain ⟨ad, hA, e0⟩ := Kd.at_string hr 0 (by omega) (by omega)
            subst hA
            have e1 : ad.add 0 = ad := by cases ad; rfl
            simp only [Int.toNat_zero] at e0
            rw [e1] at e0
            clear e1
            obtain ⟨r0, hr0⟩ : ∃ r0, r0 = rdOf ByteArray.empty rs 0 := ⟨_, rfl⟩
            have HR0 : Hid (rs.getD 0 ByteArray.empty = r0) := by show _ = _; rw [hr0]; simp [rdOf]
            rw [← hr0] at e0
            clear hr0
            go_loopw [51] (fun i wq => ∃ q : Nat, q ≤ rs.length ∧ i = .int .i64 q ∧ Hid (∀ j, j < q → readE rs (rs.getD j ByteArray.empty) = 0) ∧ Blk wq KR 182 #[.func (.func 132) #[] #[]] ∧ Below w.heap.size w wq) (fun i _ => rs.length - (intOf i).toNat)
            · exact ⟨0, Nat.zero_le _, rfl, fun j hj => absurd hj (by omega), bR, BR⟩
            · clear bR BR
              obtain ⟨q, hq, rfl, hno2, bq, nB⟩ := hrel
              have hsz2 := nB.size
              have hcr := Kd.C_below hr nB
              by_cases hlt2 : q < rs.length
              · obtain ⟨ad', hA', p0⟩ := Kd.at_string hcr q (by omega) (by omega)
                obtain rfl : ad = ad' := by injection hA'
                clear hA'
                simp only [Int.toNat_natCast] at p0
                have hrk : rdOf ByteArray.empty rs (q : Int) = rs.getD q ByteArray.empty := by simp [rdOf]
                rw [hrk] at p0
                obtain ⟨s, hs⟩ : ∃ s, s = rs.getD q ByteArray.empty := ⟨_, rfl⟩
                rw [← hs] at p0
                have HG : Hid (rs.getD q ByteArray.empty = s) := hs.symm
                clear hrk hs
                have hbq := bq.cell 0 rfl
                have hend : readE rs s = 2 → Hid (goodsE ls rs = 2) := fun he => by
                  have h1 : readsE rs = 2 := firstE_yes (fun k => readE rs (rs.getD k ByteArray.empty)) q 2 (by rw [HG.out]; exact he) (by omega) hno2.out _ hlt2
                  show _ = _
                  rw [HE2.out, goods2E, h1, if_pos (by omega)]
                have HEND := Lib.hid hend
                clear hend
                cases g1 : readsB true s with
                | false =>
                  have HR := HEND.out (by rw [readE, if_pos g1])
                  go_wp2_with (go_at_call 129; refine (CALL _ _).mono ?_; rw [g1]; rintro e w1 ⟨rfl, hB⟩)
                  go_ret
                  exact ⟨by rw [HR.out]; rfl, nB.trans (hB.mono nB.size)⟩
                | true =>
                  have e00 : ∀ w1, Below wr.heap.size wr w1 → w1.cell? ad = some (.string r0) := fun w1 hB => pw_cell_below (nB.trans (hB.mono nB.size)) e0
                  cases g2 : ((s.size : Int) == (r0.size : Int)) with
                  | false =>
                    have HR := HEND.out (by rw [readE, g1, if_neg (by simp), HR0.out, if_pos g2])
                    have g3 : decide (s.size = r0.size) = false := by
                      rw [decide_eq_false_iff_not]; intro h; rw [h] at g2; simp at g2
                    go_wp2_with (go_at_call 129; refine (CALL _ _).mono ?_; rw [g1]; rintro e w1 ⟨rfl, hB⟩; have e01 := e00 _ hB)
                    go_ret
                    exact ⟨by rw [HR.out]; rfl, nB.trans (hB.mono nB.size)⟩
                  | true =>
                    have HZ : Hid (readE rs (rs.getD q ByteArray.empty) = 0) := by
                      show _ = _
                      rw [HG.out, readE, g1, if_neg (by simp), HR0.out, g2, if_neg (by simp)]
                    have g3 : s.size = r0.size := by have := eq_of_beq g2; omega
                    have g4 : decide (s.size = r0.size) = true := by rw [g3]; simp
                    have HS := Lib.hid g3
                    clear g3
                    go_wp2_with (go_at_call 129; refine (CALL _ _).mono ?_; rw [g1]; rintro e w1 ⟨rfl, hB⟩; have e01 := e00 _ hB)
                    go_roundw
                    case rel => exact ⟨q + 1, by omega, by go_num, fun j hj => by
                      rcases Nat.lt_or_ge j q with h | h
                      · exact hno2.out j h
                      · obtain rfl : j = q := by omega
                        exact HZ.out, bq.below hB bq.lt, nB.trans (hB.mono nB.size)⟩
                    case measure => simp [intOf]; omega
              · obtain rfl : q = rs.length := by omega
                have HR2 : readsE rs = 0 := firstE_no _ _ hno2.out
                have hok := readsE_ok hno2.out
                have HE3 : Hid (goodsE ls rs = if (mergedS rs).2 = false then 9 else 0) := by
                  show _ = _
                  rw [HE2.out, goods2E, HR2, if_neg (by simp)]
                have h8 : r0.size ≤ 8 := by
                  have h1 := hok (rs.getD 0 ByteArray.empty) (by rw [List.getD_eq_getElem?_getD, List.getElem?_eq_getElem h1'']; exact List.getElem_mem _)
                  rw [HR0.out] at h1
                  exact readsB_size h1.1
                have HALL := Lib.hid (fun r hr' => (by rw [(hok r hr').2, HR0.out] : r.size = r0.size) : ∀ r ∈ rs, r.size = r0.size)
                have HM : ∀ W, Kd.C Kd.string W (some ad) rs.length rs → Calls Try.prog 94 #[.slice (some ad) rs.length c1] W fun e w' => e = .returned (.tuple #[.string (mergedS rs).1, .bool (mergedS rs).2]) ∧ Below W.heap.size W w' := fun W hW => merged_any (some ad) c1 rs r0.size W hW h1'' h8 HALL.out
                clear hok HR2 hno2 HE2
                obtain ⟨m, hm⟩ : ∃ m, m = mergedS rs := ⟨_, rfl⟩
                rw [← hm] at HE3 HM
                clear hm
                obtain ⟨m1, m2⟩ := m
                cases m2 with
                | false =>
                  go_wp2_with (go_at_call 94; refine (HM _ hcr).mono ?_; rintro e w1 ⟨rfl, hB⟩)
                  go_ret
                  exact ⟨by rw [HE3.out]; rfl, nB.trans (hB.mono nB.size)⟩
                | true =>
                  go_wp2_with (go_at_call 94; refine (HM _ hcr).mono ?_; rintro e w1 ⟨rfl, hB⟩)
                  go_ret
                  exact ⟨by rw [HE3.out]; rfl, nB.trans (hB.mono nB.size)⟩
end Go.Proofs.Ytkdlbocjgbmbdaa.Print

/-
  DERIVED: THE SHELF's CONTRACTS AT THIS DUMP, IN PLAIN WORDS (tools/lay-plain.mjs out of 'YtkdlbocjgbmbdaaShelf.lean', which tools/lay-shelf.mjs wrote): THE SAME DECLARATIONS UNDER THE SAME NAMES: 'import', 'namespace', 'open', 'def', 'theorem' AND NOTHING ELSE: no command of the shelf's: FOR A HAND-IN. Each laying: the table of numbers ('.._ren') and one theorem, a field a fact of the dump's own or the kernel's comparison; each contract: ONE APPLICATION.
-/
namespace Go.Proofs
open Go.Shelf
def Try.lays144_ren : Go.Shelf.Ren := ⟨fun | 144 => 96 | 143 => 133 | 219 => 150 | 217 => 161 | 225 => 162 | 224 => 163 | 267 => 164 | 266 => 172 | 314 => 173 | n => n, fun | 9 => 9 | 4 => 4 | 3 => 3 | 5 => 5 | 46 => 126 | 146 => 229 | 51 => 228 | n => n, fun | 1 => 0 | n => n⟩
theorem Try.lays144 : Go.Proofs.Lays.n144 Try.prog Try.lays144_ren := {
  mixed := by kernel_rfl
  f143 := Try.func133.trans (congrArg some (by kernel_rfl))
  f144 := Try.func96.trans (congrArg some (by kernel_rfl))
  f217 := Try.func161.trans (congrArg some (by kernel_rfl))
  f219 := Try.func150.trans (congrArg some (by kernel_rfl))
  f224 := Try.func163.trans (congrArg some (by kernel_rfl))
  f225 := Try.func162.trans (congrArg some (by kernel_rfl))
  f266 := Try.func172.trans (congrArg some (by kernel_rfl))
  f267 := Try.func164.trans (congrArg some (by kernel_rfl))
  f314 := Try.func173.trans (congrArg some (by kernel_rfl))
  t3 := Try.underlying3
  a3 := Try.isAgg3
  z3 := Try.sizeOf3
  v3 := Try.zeroValue3
  t4 := Try.underlying4
  a4 := Try.isAgg4
  z4 := Try.sizeOf4
  v4 := Try.zeroValue4
  t5 := Try.underlying5
  a5 := Try.isAgg5
  z5 := Try.sizeOf5
  v5 := Try.zeroValue5
  t9 := Try.underlying9
  a9 := Try.isAgg9
  z9 := Try.sizeOf9
  v9 := Try.zeroValue9
  t46 := Try.underlying126
  a46 := Try.isAgg126
  z46 := Try.sizeOf126
  v46 := Try.zeroValue126
  t51 := Try.underlying228
  a51 := Try.isAgg228
  z51 := Try.sizeOf228
  v51 := Try.zeroValue228
  t146 := Try.underlying229
  a146 := Try.isAgg229
  z146 := Try.sizeOf229
  v146 := Try.zeroValue229
  g1 := by kernel_rfl }
open Go.RowKit Go.Lib in
/-- strings.Contains: "Contains reports whether substr is within s.": AT A substr OF ONE BYTE c: IT RETURNS 'decide (0 ≤ Lib.indexByte s c)'; the world is as it was. (LAID: no walk: one application.) -/
theorem Try.strings_Contains_one (s : ByteArray) (c : UInt8) (w : World) :
    Calls Try.prog 96 #[.string s, .string ⟨#[c]⟩] w fun e w' => e = .returned (.bool (decide (0 ≤ Lib.indexByte s.data.toList c))) ∧ w' = w := Any.strings_Contains_one Try.lays144 s c w
end Go.Proofs

namespace Go.Proofs.Ytkdlbocjgbmbdaa.Print
open Go.RowKit Go.Shelf Go.Proofs.YtkdlbocjgbmbdaaW.PrintWords
set_option linter.unusedVariables false
attribute [local go_sem] Oper.semAt_some
attribute [local go_sem] wide_fn wide_asked
def fitB (c r : ByteArray) (j : Nat) : Bool := decide ((r.data.toList.getD j 0).toNat = 63) || decide ((r.data.toList.getD j 0).toNat = (c.data.toList.getD j 0).toNat)
def fitK (c r : ByteArray) (j : Nat) : Bool := (List.range j).all (fitB c r)
def fitsS (c r : ByteArray) : Bool := decide (c.size = r.size) && fitK c r c.size
theorem fitK_succ (c r : ByteArray) (j : Nat) : fitK c r (j + 1) = (fitK c r j && fitB c r j) := by
  simp [fitK, List.range_succ]
theorem fitK_false (c r : ByteArray) (j : Nat) (h : fitK c r j = false) : ∀ n, j ≤ n → fitK c r n = false
  | 0, hn => by obtain rfl : j = 0 := by omega
                exact h
  | n + 1, hn => by
    rcases Nat.lt_or_ge n j with h' | h'
    · obtain rfl : j = n + 1 := by omega
      exact h
    · rw [fitK_succ, fitK_false c r j h n h']; rfl
theorem getD_at (s : ByteArray) (j : Nat) (h : j < s.size) : s.data.toList.getD j 0 = s[j]'h := by
  rw [List.getD_eq_getElem?_getD, List.getElem?_eq_getElem (by simpa using h)]; rfl
set_option maxRecDepth 100000 in
set_option maxHeartbeats 4000000 in
theorem fits_any (c r : ByteArray) (hc : c.size ≤ 8) (w : World) :
    Calls Try.prog 95 #[.string c, .string r] w fun e w' => e = .returned (.bool (fitsS c r)) ∧ Below w.heap.size w w' := by
  by_cases hsz : c.size = r.size
  · have hd : ((c.size : Int) == (r.size : Int)) = true := by simp [hsz]
    have HF : Hid (fitsS c r = fitK c r c.size) := by show _ = _; simp [fitsS, hsz]
    have HS := Lib.hid hsz
    clear hsz
    go_enter Try.func95, Try.ntmps95
    go_wp2
    go_loopw [5, 6] (fun vb vi wr => ∃ (j : Nat) (b : Bool), j ≤ c.size ∧ vi = .int .i64 j ∧ vb = .bool b ∧ Hid (b = fitK c r j) ∧ Below w.heap.size w wr) (fun _ i _ => c.size - (intOf i).toNat)
    · exact ⟨0, true, Nat.zero_le _, rfl, rfl, rfl, Below.refl _ _⟩
    · obtain ⟨j, b, hj, rfl, rfl, HK, hB⟩ := hrel
      cases b with
      | false =>
        go_wp2
        go_ret
        exact ⟨by rw [HF.out, fitK_false c r j HK.out.symm _ hj]; rfl, hB⟩
      | true =>
        by_cases hlt : j < c.size
        · have hss := HS.out
          have hlr : j < r.size := by omega
          have HC : Hid (c.data.toList.getD j 0 = c[j]) := getD_at c j hlt
          have HR : Hid (r.data.toList.getD j 0 = r[j]) := getD_at r j hlr
          have hz : (j : Int) < (r.size : Int) := by omega
          clear hss
          have HST : Hid (∀ b, (((r[j].toNat : Int) == 63) || ((r[j].toNat : Int) == (c[j].toNat : Int))) = b → b = fitK c r (j + 1)) := fun b hb => by
            rw [fitK_succ, ← HK.out, Bool.true_and, fitB, HC.out, HR.out, ← hb]
            rw [Bool.eq_iff_iff]
            simp only [Bool.or_eq_true, beq_iff_eq, decide_eq_true_eq]
            omega
          cases g1 : ((r[j].toNat : Int) == 63) with
          | true =>
            have HE : Hid (true = fitK c r (j + 1)) := HST.out true (by rw [g1]; rfl)
            go_wp2
            go_quiet (fail)
            go_wp2
            exact ⟨⟨j + 1, true, by omega, by push_cast; rfl, rfl, HE, below_drewN' hB _⟩, by simp [intOf]; omega⟩
          | false =>
            cases g2 : ((r[j].toNat : Int) == (c[j].toNat : Int)) with
            | true =>
              have HE : Hid (true = fitK c r (j + 1)) := HST.out true (by rw [g1, g2]; rfl)
              go_wp2
              go_quiet (fail)
              go_wp2
              exact ⟨⟨j + 1, true, by omega, by push_cast; rfl, rfl, HE, below_drewN' hB _⟩, by simp [intOf]; omega⟩
            | false =>
              have HE : Hid (false = fitK c r (j + 1)) := HST.out false (by rw [g1, g2]; rfl)
              go_wp2
              go_quiet (fail)
              go_wp2
              exact ⟨⟨j + 1, false, by omega, by push_cast; rfl, rfl, HE, below_drewN' hB _⟩, by simp [intOf]; omega⟩
        · obtain rfl : j = c.size := by omega
          go_wp2
          go_ret
          exact ⟨by rw [HF.out, ← HK.out]; rfl, hB⟩
  · have hd : ((c.size : Int) == (r.size : Int)) = false := by simp; omega
    have HF : Hid (fitsS c r = false) := by show _ = _; simp [fitsS, hsz]
    clear hsz
    go_enter Try.func95, Try.ntmps95
    go_wp2
    go_loopw [5, 6] (fun vb vi wr => vb = .bool false ∧ Below w.heap.size w wr) (fun _ i _ => 0)
    · exact ⟨rfl, Below.refl _ _⟩
    · obtain ⟨rfl, hB⟩ := hrel
      go_wp2
      go_ret
      exact ⟨by rw [HF.out]; rfl, hB⟩
def fitIx (ls : List S77) (m : ByteArray) : Nat → List Int
  | 0 => []
  | k + 1 => fitIx ls m k ++ (if fitsS (ls.getD k z77).f0 m = true then [(k : Int)] else [])
theorem fitIx_len (ls : List S77) (m : ByteArray) : ∀ k, (fitIx ls m k).length ≤ k
  | 0 => Nat.le_refl _
  | k + 1 => by
    have := fitIx_len ls m k
    rw [fitIx, List.length_append]
    split <;> simp <;> omega
def openB (m : ByteArray) : Bool := decide (0 ≤ Lib.indexByte m.data.toList 63)
def matchR (ls : List S77) (rs : List ByteArray) : Int × List Int × Int :=
  if goodsE ls rs ≠ 0 then (0, [], goodsE ls rs) else
  if fitIx ls (mergedS rs).1 ls.length = [] then (2, [], 0) else if openB (mergedS rs).1 = true then (3, fitIx ls (mergedS rs).1 ls.length, 0) else (1, fitIx ls (mergedS rs).1 ls.length, 0)
structure GoodsOk (ls : List S77) (rs : List ByteArray) : Prop where
  few : ls.length ≤ 12
  ne : 0 < rs.length
  fewr : rs.length ≤ 4
  sizes : ∀ r ∈ rs, readsB true r = true ∧ r.size = (rs.getD 0 ByteArray.empty).size
  fine : (mergedS rs).2 = true
  tags : tagsE ls = 0
theorem goodsE_ok {ls : List S77} {rs : List ByteArray} (h : goodsE ls rs = 0) : GoodsOk ls rs := by
  unfold goodsE at h
  split at h
  · cases h
  rename_i h1
  split at h
  · rename_i h2; exact absurd h h2
  rename_i h2
  unfold goods1E at h
  split at h
  · cases h
  rename_i h3
  split at h
  · cases h
  rename_i h4
  unfold goods2E at h
  split at h
  · rename_i h5; exact absurd h h5
  rename_i h5
  split at h
  · cases h
  rename_i h6
  have h5 : readsE rs = 0 := by simpa using h5
  exact ⟨by omega, by omega, by omega, readsE_ok (firstE_zero _ _ h5), by simpa using h6, by simpa using h2⟩
theorem GoodsOk.size8 {ls : List S77} {rs : List ByteArray} (h : GoodsOk ls rs) : (rs.getD 0 ByteArray.empty).size ≤ 8 := by
  have h1 := h.sizes (rs.getD 0 ByteArray.empty) (by rw [List.getD_eq_getElem?_getD, List.getElem?_eq_getElem h.ne]; exact List.getElem_mem _)
  exact readsB_size h1.1
set_option maxRecDepth 100000 in
set_option maxHeartbeats 8000000 in
theorem match_any (A0 : Option Addr) (c0 : Nat) (ls : List S77) (A1 : Option Addr) (c1 : Nat) (rs : List ByteArray) (w : World)
    (hl : Kd.C k77 w A0 ls.length ls) (hlc : ls.length ≤ c0) (hr : Kd.C Kd.string w A1 rs.length rs) :
    Calls Try.prog 42 #[.slice A0 ls.length c0, .slice A1 rs.length c1] w fun e w' => ∃ v0_ : Value, e = .returned (.tuple #[.int .i64 (matchR ls rs).1, v0_, .int .i64 (matchR ls rs).2.2]) ∧ Kd.R (Kd.int .i64) 3 w' w.heap.size (fun _ => True) v0_ (matchR ls rs).2.1 ∧ Below w.heap.size w w' := by
  obtain ⟨t, ht⟩ : ∃ t, t = goodsE ls rs := ⟨_, rfl⟩
  have HT := Lib.hid ht
  by_cases h0 : t = 0
  · have hok : GoodsOk ls rs := goodsE_ok (by rw [← ht]; exact h0)
    have HR : Hid (matchR ls rs = if fitIx ls (mergedS rs).1 ls.length = [] then (2, [], 0) else if openB (mergedS rs).1 = true then (3, fitIx ls (mergedS rs).1 ls.length, 0) else (1, fitIx ls (mergedS rs).1 ls.length, 0)) := by
      show _ = _
      rw [matchR, ← ht, if_neg (by simpa using h0)]
    clear ht
    subst h0
    have HM : ∀ W, Below w.heap.size w W → Calls Try.prog 94 #[.slice A1 rs.length c1] W fun e w' => e = .returned (.tuple #[.string (mergedS rs).1, .bool (mergedS rs).2]) ∧ Below W.heap.size W w' := fun W hW => merged_any A1 c1 rs _ W (Kd.C_below hr hW) hok.ne hok.size8 fun r hr' => (hok.sizes r hr').2
    obtain ⟨m, hm⟩ : ∃ m, m = (mergedS rs).1 := ⟨_, rfl⟩
    rw [← hm] at HR HM
    clear hm
    have hmax := hok.few
    have H8 : Hid (∀ k, k < ls.length → (ls.getD k z77).f0.size ≤ 8) := fun k hk => by
      have h1 := firstE_zero _ _ hok.tags k hk
      unfold tagE at h1
      split at h1
      · cases h1
      rename_i h2
      exact readsB_size (by simpa using h2)
    clear hok
    go_enter Try.func42, Try.ntmps42
    go_wp2_with (first
      | (go_at_call 93; refine (goods_any A0 c0 ls A1 c1 rs _ hl hlc hr).mono ?_; rw [← HT.out]; rintro e w1 ⟨rfl, hB1⟩)
      | (go_at_call 94; refine (HM _ hB1).mono ?_; rintro e w2 ⟨rfl, hB2⟩))
    have hB := hB1.trans (hB2.mono hB1.size)
    clear hB1 hB2
    go_loopw [5, 25] (fun vt vi wr => ∃ (k : Nat) (ts : List Int), k ≤ ls.length ∧ vi = .int .i64 k ∧ Hid (ts = fitIx ls m k) ∧ Kd.R (Kd.int .i64) 3 wr w.heap.size (fun _ => True) vt ts ∧ Below w.heap.size w wr) (fun _ i _ => ls.length - (intOf i).toNat)
    · exact ⟨0, [], Nat.zero_le _, rfl, rfl, Kd.R_nil _ _ _ _ _, hB⟩
    · clear hB
      obtain ⟨k, ts, hk, rfl, HTS, hR, hB⟩ := hrel
      have hts : ts.length ≤ 12 := by have := fitIx_len ls m k; rw [← HTS.out] at this; omega
      have hz := hB.size
      by_cases hlt : k < ls.length
      · obtain ⟨ad, hA, p0, p1⟩ := at_T77 (Kd.C_below hl hB) k (by omega) (by omega)
        subst hA
        simp only [Int.toNat_natCast] at p0 p1
        rw [rd_T77_at ls k hlt] at p0 p1
        obtain ⟨d, hd⟩ : ∃ d, d = ls[k] := ⟨_, rfl⟩
        rw [← hd] at p0 p1
        have HG : Hid (ls.getD k z77 = d) := by show ls.getD k z77 = d; rw [hd]; simp [List.getD_eq_getElem?_getD, List.getElem?_eq_getElem hlt]
        have hd8 : d.f0.size ≤ 8 := by have := H8.out k hlt; rwa [HG.out] at this
        clear hd
        have b1 : Blk (wr.alloc (.cells (tagV d) 77)) wr.heap.size 77 (tagV d) := blk_new _ _ _
        have hB2 := below_alloc' hB (.cells (tagV d) 77)
        have hR2 := Kd.R_alloc hR (.cells (tagV d) 77)
        have q0 := b1.cell 0 rfl
        cases hs : fitsS d.f0 m with
        | true =>
          have HTS2 : Hid (ts ++ [(k : Int)] = fitIx ls m (k + 1)) := by show _ = _; rw [fitIx, HG.out, hs, if_pos rfl, ← HTS.out]
          go_wp2_with (first
            | (go_at_call 95; refine (fits_any _ _ hd8 _).mono ?_; rw [hs]; rintro e w1 ⟨rfl, hB3⟩; have hB4 := hB2.trans (hB3.mono (by simp; omega)); have hR4 := Kd.R_below hR2 hB3)
            | ((with_reducible refine gate_builtin (b := .append) (xs := #[.tmp 34, .tmp 36]) rfl ?_); at_builtin; refine Kd.R_append (Kd.int .i64) (w0 := w) w.heap.size rfl (.tmp 34) (.tmp 36) 27 3 (.int .i64 0) 8 rfl Try.underlying27 info3 rfl (by decide) (by omega) u5 ts (k : Int) [.int .i64 k] (fun _ => True) (fun _ => False) rfl rfl ?aP (fun _ hk => hk.elim) ?aF ?aO ?aB ?aS ?aL ?_; (case aP => exact rfl); (case aF => exact fun _ _ => trivial); (case aO => exact hR4); (case aB => exact hB4); (case aS => exact hB4.size); (case aL => omega); intro v1 w2 ho hb hg hat))
          refine ⟨⟨k + 1, _, by omega, by push_cast; rfl, HTS2, ho, hb⟩, by simp [intOf]; omega⟩
        | false =>
          have HTS2 : Hid (ts = fitIx ls m (k + 1)) := by show _ = _; rw [fitIx, HG.out, hs, if_neg (by simp), ← HTS.out, List.append_nil]
          go_wp2_with (go_at_call 95; refine (fits_any _ _ hd8 _).mono ?_; rw [hs]; rintro e w1 ⟨rfl, hB3⟩; have hB4 := hB2.trans (hB3.mono (by simp; omega)); have hR4 := Kd.R_below hR2 hB3)
          refine ⟨⟨k + 1, _, by omega, by push_cast; rfl, HTS2, hR4, hB4⟩, by simp [intOf]; omega⟩
      · obtain rfl : k = ls.length := by omega
        obtain ⟨o, ho⟩ : ∃ o, o = openB m := ⟨_, rfl⟩
        have HO := Lib.hid ho
        have HR1 : Hid (matchR ls rs = if ts = [] then (2, [], 0) else if o = true then (3, ts, 0) else (1, ts, 0)) := by show _ = _; rw [HR.out, ← HTS.out, ← ho]
        clear ho HR HTS H8
        obtain ⟨A5, c5, e5⟩ := Kd.R_slice hR
        subst e5
        by_cases h1 : ts = []
        · have HR2 : Hid (matchR ls rs = (2, [], 0)) := by show _ = _; rw [HR1.out, if_pos h1]
          have hl0 : ((ts.length : Int) == 0) = true := by rw [h1]; rfl
          clear h1 HR1
          go_wp2
          go_ret3
          exact ⟨_, by rw [HR2.out]; rfl, by rw [HR2.out]; exact Kd.R_nil _ _ _ _ _, hB⟩
        · have hl0 : ((ts.length : Int) == 0) = false := by
            have : ts.length ≠ 0 := fun h => h1 (List.length_eq_zero_iff.1 h)
            simp; omega
          cases o with
          | true =>
            have HR2 : Hid (matchR ls rs = (3, ts, 0)) := by show _ = _; rw [HR1.out, if_neg h1, if_pos rfl]
            clear h1 HR1
            go_wp2_with (go_at_call 96; refine (Try.strings_Contains_one m 63 _).mono ?_; rw [show decide (0 ≤ Lib.indexByte m.data.toList 63) = true from HO.out.symm]; rintro e w1 ⟨rfl, rfl⟩)
            go_ret3
            exact ⟨_, by rw [HR2.out]; rfl, by rw [HR2.out]; exact hR, hB⟩
          | false =>
            have HR2 : Hid (matchR ls rs = (1, ts, 0)) := by show _ = _; rw [HR1.out, if_neg h1, if_neg (by simp)]
            clear h1 HR1
            go_wp2_with (go_at_call 96; refine (Try.strings_Contains_one m 63 _).mono ?_; rw [show decide (0 ≤ Lib.indexByte m.data.toList 63) = false from HO.out.symm]; rintro e w1 ⟨rfl, rfl⟩)
            go_ret3
            exact ⟨_, by rw [HR2.out]; rfl, by rw [HR2.out]; exact hR, hB⟩
  · have HR : Hid (matchR ls rs = (0, [], t)) := by show _ = _; rw [matchR, ← ht, if_pos h0]
    clear ht
    go_enter Try.func42, Try.ntmps42
    go_wp2_with (go_at_call 93; refine (goods_any A0 c0 ls A1 c1 rs _ hl hlc hr).mono ?_; rw [← HT.out]; rintro e w1 ⟨rfl, hB1⟩)
    refine bodyPost_ret (v := .tuple #[.int .i64 0, .slice none 0 0, .int .i64 t]) (by simp [results, Try.results42, go_sem]) rfl ⟨_, by rw [HR.out], ?_, hB1⟩
    rw [HR.out]
    exact Kd.R_nil _ _ _ _ _
end Go.Proofs.Ytkdlbocjgbmbdaa.Print

namespace Go.Proofs.Ytkdlbocjgbmbdaa.Print
open Go.RowKit Go.Shelf Go.Proofs.YtkdlbocjgbmbdaaW.PrintWords
set_option linter.unusedVariables false
attribute [local go_sem] Oper.semAt_some
attribute [local go_sem] wide_fn wide_asked
def z24' : S24 := ⟨0, 0⟩
def rangeV (x : S24) : Array Value := #[.int .i64 x.f0, .int .i64 x.f1]
def stockE (x : S24) : Int := if inB x.f0 0 1000000 = false then 1 else if inB x.f1 0 1000000 = false then 1 else if x.f1 < x.f0 then 5 else 0
def stocksE (st : List S24) : Int := firstE (fun k => stockE (st.getD k z24')) st.length
def lotsE (lot bound held : Int) : Int := if inB lot 1 1000000 = false then 1 else if inB bound 0 1000000 = false then 1 else if inB held 0 50 = false then 1 else 0
def hedgeE (st : List S24) (lot bound held : Int) : Int :=
  if (st.length : Int) = 0 then 7 else if (20 : Int) < st.length then 6 else if stocksE st ≠ 0 then stocksE st else lotsE lot bound held
theorem rd_T24_at (xs : List S24) (k : Nat) (h : k < xs.length) : rd_T24 xs (k : Int) = xs[k] := by
  simp [rd_T24, List.getD_eq_getElem?_getD, List.getElem?_eq_getElem h]
set_option maxRecDepth 100000 in
set_option maxHeartbeats 8000000 in
theorem checkHedge_any (A : Option Addr) (c : Nat) (st : List S24) (lot bound held : Int) (w : World) (hC : Kd.C k24 w A st.length st) :
    Calls Try.prog 103 #[.agg #[.slice A st.length c, .int .i64 lot, .int .i64 bound, .int .i64 held]] w fun e w' => e = .returned (.int .i64 (hedgeE st lot bound held)) ∧ Below w.heap.size w w' := by
  have hmax := Kd.C_max hC
  have hB0 : Below w.heap.size w (w.alloc (.cells #[.slice A st.length c, .int .i64 lot, .int .i64 bound, .int .i64 held] 87)) := below_alloc (Below.refl _ _) _
  have b0 := blk_new w 87 #[.slice A st.length c, .int .i64 lot, .int .i64 bound, .int .i64 held]
  cases h0 : ((st.length : Int) == 0) with
  | true =>
    go_enter Try.func103, Try.ntmps103
    go_wp2
    go_ret
    exact ⟨by rw [hedgeE, if_pos (by simpa using h0)]; rfl, hB0⟩
  | false =>
    have h0' : ¬ (st.length : Int) = 0 := by simpa using h0
    by_cases h1 : (20 : Int) < st.length
    · have h1' : (st.length : Int) ≠ 0 := h0'
      have HE : Hid (hedgeE st lot bound held = 6) := by show _ = _; rw [hedgeE, if_neg h0', if_pos h1]
      clear h0' h1'
      go_enter Try.func103, Try.ntmps103
      go_wp2
      go_ret
      exact ⟨by rw [HE.out]; rfl, hB0⟩
    · have HE : Hid (hedgeE st lot bound held = if stocksE st ≠ 0 then stocksE st else lotsE lot bound held) := by show _ = _; rw [hedgeE, if_neg h0', if_neg h1]
      clear h0'
      go_enter Try.func103, Try.ntmps103
      go_wp2
      generalize w.alloc (.cells #[.slice A st.length c, .int .i64 lot, .int .i64 bound, .int .i64 held] 87) = W0 at *
      go_loopw [18] (fun i wr => ∃ k : Nat, k ≤ st.length ∧ i = .int .i64 k ∧ Hid (∀ j, j < k → stockE (st.getD j z24') = 0) ∧ Blk wr w.heap.size 87 #[.slice A st.length c, .int .i64 lot, .int .i64 bound, .int .i64 held] ∧ Below w.heap.size w wr) (fun i _ => st.length - (intOf i).toNat)
      · exact ⟨0, Nat.zero_le _, rfl, fun j hj => absurd hj (by omega), b0, hB0⟩
      · clear b0 hB0
        obtain ⟨k, hk, rfl, hno, n0, hnx⟩ := hrel
        have hz := hnx.size
        have hz2 := n0.lt
        by_cases hlt : k < st.length
        · obtain ⟨ad, hA, p0, p1⟩ := at_T24 (Kd.C_below hC hnx) k (by omega) (by omega)
          subst hA
          simp only [Int.toNat_natCast] at p0 p1
          rw [rd_T24_at st k hlt] at p0 p1
          obtain ⟨d, hd⟩ : ∃ d, d = st[k] := ⟨_, rfl⟩
          rw [← hd] at p0 p1
          have HG : Hid (st.getD k z24' = d) := by show _ = d; rw [hd]; simp [List.getD_eq_getElem?_getD, List.getElem?_eq_getElem hlt]
          clear hd
          have hend : ∀ e : Int, stockE d = e → e ≠ 0 → Hid (hedgeE st lot bound held = e) := fun e he hne => by
            have h1 : stocksE st = e := firstE_yes (fun k => stockE (st.getD k z24')) k e (by rw [HG.out]; exact he) hne hno.out _ hlt
            show _ = e
            rw [HE.out, h1, if_pos hne]
          have HEND := Lib.hid hend
          clear hend
          have hB1 := below_alloc' hnx (.cells (rangeV d) 24)
          cases g1 : inB d.f0 0 1000000 with
          | false =>
            have HR := HEND.out 1 (by rw [stockE, if_pos g1]) (by omega)
            go_wp2_with (go_at_call 81; refine (in_any _ _ _ _).mono ?_; rintro e w' ⟨rfl, rfl⟩)
            go_ret
            exact ⟨by rw [HR.out]; rfl, hB1⟩
          | true =>
            cases g2 : inB d.f1 0 1000000 with
            | false =>
              have HR := HEND.out 1 (by rw [stockE, g1, if_neg (by simp), if_pos g2]) (by omega)
              go_wp2_with (go_at_call 81; refine (in_any _ _ _ _).mono ?_; rintro e w' ⟨rfl, rfl⟩)
              go_ret
              exact ⟨by rw [HR.out]; rfl, hB1⟩
            | true =>
              by_cases g3 : d.f1 < d.f0
              · have HR := HEND.out 5 (by rw [stockE, g1, if_neg (by simp), g2, if_neg (by simp), if_pos g3]) (by omega)
                go_wp2_with (go_at_call 81; refine (in_any _ _ _ _).mono ?_; rintro e w' ⟨rfl, rfl⟩)
                go_ret
                exact ⟨by rw [HR.out]; rfl, hB1⟩
              · have HZ : Hid (stockE (st.getD k z24') = 0) := by
                  show _ = _
                  rw [HG.out, stockE, g1, if_neg (by simp), g2, if_neg (by simp), if_neg g3]
                go_wp2_with (go_at_call 81; refine (in_any _ _ _ _).mono ?_; rintro e w' ⟨rfl, rfl⟩)
                go_roundw
                case rel => exact ⟨k + 1, by omega, by go_num, fun j hj => by
                  rcases Nat.lt_or_ge j k with h | h
                  · exact hno.out j h
                  · obtain rfl : j = k := by omega
                    exact HZ.out, n0.alloc _, hB1⟩
                case measure => simp [intOf]; omega
        · obtain rfl : k = st.length := by omega
          have HT : stocksE st = 0 := firstE_no _ _ hno.out
          have HE1 : Hid (hedgeE st lot bound held = lotsE lot bound held) := by show _ = _; rw [HE.out, HT, if_neg (by simp)]
          clear HE HT hno
          have m1 := n0.cell 1 rfl
          have m2 := n0.cell 2 rfl
          have m3 := n0.cell 3 rfl
          cases g1 : inB lot 1 1000000 with
          | false =>
            go_wp2_with (go_at_call 81; refine (in_any _ _ _ _).mono ?_; rintro e w' ⟨rfl, rfl⟩)
            go_ret
            exact ⟨by rw [HE1.out, lotsE, if_pos g1]; rfl, hnx⟩
          | true =>
            cases g2 : inB bound 0 1000000 with
            | false =>
              go_wp2_with (go_at_call 81; refine (in_any _ _ _ _).mono ?_; rintro e w' ⟨rfl, rfl⟩)
              go_ret
              exact ⟨by rw [HE1.out, lotsE, g1, if_neg (by simp), if_pos g2]; rfl, hnx⟩
            | true =>
              cases g3 : inB held 0 50 with
              | false =>
                go_wp2_with (go_at_call 81; refine (in_any _ _ _ _).mono ?_; rintro e w' ⟨rfl, rfl⟩)
                go_ret
                exact ⟨by rw [HE1.out, lotsE, g1, if_neg (by simp), g2, if_neg (by simp), if_pos g3]; rfl, hnx⟩
              | true =>
                go_wp2_with (go_at_call 81; refine (in_any _ _ _ _).mono ?_; rintro e w' ⟨rfl, rfl⟩)
                go_ret
                exact ⟨by rw [HE1.out, lotsE, g1, if_neg (by simp), g2, if_neg (by simp), g3, if_neg (by simp)]; rfl, hnx⟩
structure HedgeOk (st : List S24) (lot bound held : Int) : Prop where
  ne : 0 < st.length
  few : st.length ≤ 20
  stock : ∀ x ∈ st, 0 ≤ x.f0 ∧ x.f0 ≤ x.f1 ∧ x.f1 ≤ 1000000
  l1 : 1 ≤ lot
  l2 : lot ≤ 1000000
  b0 : 0 ≤ bound
  b1 : bound ≤ 1000000
  h0 : 0 ≤ held
  h1 : held ≤ 50
theorem hedgeE_ok {st : List S24} {lot bound held : Int} (h : hedgeE st lot bound held = 0) : HedgeOk st lot bound held := by
  unfold hedgeE at h
  split at h
  · cases h
  rename_i h1
  split at h
  · cases h
  rename_i h2
  split at h
  · rename_i h3; exact absurd h h3
  rename_i h3
  have h3 : stocksE st = 0 := by simpa using h3
  unfold lotsE at h
  split at h
  · cases h
  rename_i h4
  split at h
  · cases h
  rename_i h5
  split at h
  · cases h
  rename_i h6
  have := inB_true h4
  have := inB_true h5
  have := inB_true h6
  refine ⟨by omega, by omega, fun x hx => ?_, by omega, by omega, by omega, by omega, by omega, by omega⟩
  obtain ⟨k, hk, rfl⟩ := List.getElem_of_mem hx
  have h7 := firstE_zero _ _ h3 k hk
  rw [List.getD_eq_getElem?_getD (i := k), List.getElem?_eq_getElem hk] at h7
  simp only [Option.getD_some] at h7
  unfold stockE at h7
  split at h7
  · cases h7
  rename_i g1
  split at h7
  · cases h7
  rename_i g2
  split at h7
  · cases h7
  have := inB_true g1
  have := inB_true g2
  omega
end Go.Proofs.Ytkdlbocjgbmbdaa.Print

namespace Go.Proofs.Ytkdlbocjgbmbdaa.Print
open Go.RowKit Go.Shelf Go.Proofs.YtkdlbocjgbmbdaaW.PrintWords
set_option linter.unusedVariables false
attribute [local go_sem] Oper.semAt_some
attribute [local go_sem] wide_fn wide_asked
def expo0 (st : List S24) (lot : Int) (d : Nat) (l : Int) : Int := (st.getD d z24').f0 - lot * l
def expo1 (st : List S24) (lot : Int) (d : Nat) (l : Int) : Int := (st.getD d z24').f1 - lot * l
theorem expo_bound {st : List S24} {lot bound held : Int} (hok : HedgeOk st lot bound held) {d : Nat} (hd : d < st.length) {l : Int} (h0 : 0 ≤ l) (h1 : l ≤ 50) :
    -50000000 ≤ expo0 st lot d l ∧ expo0 st lot d l ≤ expo1 st lot d l ∧ expo1 st lot d l ≤ 1000000 ∧ 0 ≤ lot * l ∧ lot * l ≤ 50000000 := by
  have hs := hok.stock st[d] (List.getElem_mem _)
  have e : st.getD d z24' = st[d] := by simp [List.getD_eq_getElem?_getD, List.getElem?_eq_getElem hd]
  have hl1 := hok.l1
  have hl2 := hok.l2
  have p1 : 0 ≤ lot * l := Int.mul_nonneg (by omega) h0
  have p2 : lot * l ≤ 1000000 * 50 := Int.mul_le_mul hl2 h1 h0 (by omega)
  unfold expo0 expo1
  rw [e]
  omega
theorem cell_same {W W' : World} (h : W'.heap = W.heap) {p : Addr} {v : Value} (hv : W.cell? p = some v) : W'.cell? p = some v := by rw [← hv]; simp only [World.cell?, h]
set_option maxRecDepth 100000 in
set_option maxHeartbeats 8000000 in
theorem exposed_any (A : Option Addr) (c : Nat) (st : List S24) (lot bound held : Int) (d : Nat) (l : Int) (w : World) (hC : Kd.C k24 w A st.length st) (hok : HedgeOk st lot bound held) (hd : d < st.length) (h0 : 0 ≤ l) (h1 : l ≤ 50) :
    Calls Try.prog 106 #[.agg #[.slice A st.length c, .int .i64 lot, .int .i64 bound, .int .i64 held], .int .i64 (d : Int), .int .i64 l] w fun e w' => e = .returned (.agg #[.int .i64 (expo0 st lot d l), .int .i64 (expo1 st lot d l)]) ∧ Below w.heap.size w w' := by
  have hmax := Kd.C_max hC
  have hbd := expo_bound hok hd h0 h1
  obtain ⟨ad, hA, p0, p1⟩ := at_T24 hC d (by omega) (by omega)
  subst hA
  simp only [Int.toNat_natCast] at p0 p1
  rw [rd_T24_at st d hd] at p0 p1
  have HG : Hid (st.getD d z24' = st[d]) := by show _ = st[d]; simp [List.getD_eq_getElem?_getD, List.getElem?_eq_getElem hd]
  have HE0 : Hid (expo0 st lot d l = st[d].f0 - lot * l) := by show expo0 st lot d l = _; rw [expo0, HG.out]
  have HE1 : Hid (expo1 st lot d l = st[d].f1 - lot * l) := by show expo1 st lot d l = _; rw [expo1, HG.out]
  rw [HE0.out, HE1.out] at hbd
  rw [HE0.out, HE1.out]
  obtain ⟨x, hx⟩ : ∃ x, x = st[d] := ⟨_, rfl⟩
  rw [← hx] at hbd p0 p1
  rw [← hx]
  clear hx HE0 HE1 HG
  have hst := (hok.few)
  have hne := hok.ne
  obtain ⟨q, hq⟩ : ∃ q, q = lot * l := ⟨_, rfl⟩
  obtain ⟨W0, hW0⟩ : ∃ W0, W0 = (w.alloc (.cells #[.slice (some ad) st.length c, .int .i64 lot, .int .i64 bound, .int .i64 held] 87)).alloc (.cells #[.int .i64 0, .int .i64 0] 24) := ⟨_, rfl⟩
  have b0 : Blk W0 w.heap.size 87 #[.slice (some ad) st.length c, .int .i64 lot, .int .i64 bound, .int .i64 held] := by rw [hW0]; exact (blk_new w 87 _).alloc _
  have b1 : Blk W0 (w.heap.size + 1) 24 #[.int .i64 0, .int .i64 0] := by rw [hW0]; exact blk_new' (by simp)
  have B0 : Below w.heap.size w W0 := by rw [hW0]; exact below_alloc (below_alloc (Below.refl _ _) _) _
  have hw1 : IntKind.i64.wrap (lot * l) = lot * l := IntWalk.i64_in _ (by omega)
  have hw2 : IntKind.i64.wrap (x.f0 - lot * l) = x.f0 - lot * l := IntWalk.i64_in _ (by omega)
  have hw3 : IntKind.i64.wrap (x.f1 - lot * l) = x.f1 - lot * l := IntWalk.i64_in _ (by omega)
  have hz0 : (0 : Int) ≤ (d : Int) := by omega
  have hz1 : (d : Int) < (st.length : Int) := by omega
  have p0' := pw_cell_below B0 p0
  have p1' := pw_cell_below B0 p1
  clear hq q p0 p1
  clear hbd
  go_enter Try.func106, Try.ntmps106
  go_wp2
  rw [← hW0]
  clear hW0
  refine wp_region_quiet_tail 23 (by kernel_rfl) (by kernel_rfl) ?_
  simp only [List.take_succ_cons, List.take_zero, List.drop_succ_cons, List.drop_zero]
  intro wd hwd hbd
  have d0 := b0.same hwd
  have d1 := b1.same hwd
  have Bd := hbd _ _ B0
  have c0 := d0.cell 0 rfl
  have c1 := d0.cell 1 rfl
  have q0 := cell_same hwd p0'
  have q1 := cell_same hwd p1'
  have u0 := d1.cell 0 rfl
  have u1 := d1.cell 1 rfl
  have v0 := d1.frozen 0
  have v1 := (d1.set 0 (.int .i64 (x.f0 - lot * l))).frozen 1
  have x1 : Blk ((wd.setCell ⟨w.heap.size + 1, 0, none⟩ (.int .i64 (x.f0 - lot * l))).setCell ⟨w.heap.size + 1, 1, none⟩ (.int .i64 (x.f1 - lot * l))) (w.heap.size + 1) 24 #[.int .i64 (x.f0 - lot * l), .int .i64 (x.f1 - lot * l)] := (d1.set 0 (.int .i64 (x.f0 - lot * l))).set 1 (.int .i64 (x.f1 - lot * l))
  clear hbd p0' p1' hwd
  repeat (go_big_quiet_step (fail))
  refine wpQuiet_nil ?_
  go_wp2
  refine bodyPost_ret (v := .agg #[.int .i64 (x.f0 - lot * l), .int .i64 (x.f1 - lot * l)]) ?_ rfl ⟨rfl, (Bd.setCell (p := ⟨w.heap.size + 1, 0, none⟩) (by dsimp only; omega) _).setCell (p := ⟨w.heap.size + 1, 1, none⟩) (by dsimp only; omega) _⟩
  simp [results, Try.results106, asAddr, run_loadVar_row _ (w.heap.size + 1) 24 24 _ (0, 0) _ x1 Try.underlying24 rfl (by kernel_rfl)]
theorem apart_any (a b : Int) (w : World) (ha : 0 ≤ a ∧ a ≤ 50) (hb : 0 ≤ b ∧ b ≤ 50) : Calls Try.prog 110 #[.int .i64 a, .int .i64 b] w fun e w' => e = .returned (.int .i64 (max (a - b) (b - a))) ∧ w' = w := by
  have h1 := ha.1
  have h2 := ha.2
  have h3 := hb.1
  have h4 := hb.2
  clear ha hb
  by_cases h : a - b ≤ b - a
  · have e : max (a - b) (b - a) = b - a := by omega
    rw [e]
    go_enter Try.func110, Try.ntmps110
    go_wp2
    go_ret
    exact ⟨by simp, rfl⟩
  · have e : max (a - b) (b - a) = a - b := by omega
    rw [e]
    go_enter Try.func110, Try.ntmps110
    go_wp2
    go_ret
    exact ⟨by simp, rfl⟩
end Go.Proofs.Ytkdlbocjgbmbdaa.Print

namespace Go.Proofs.Ytkdlbocjgbmbdaa.Print
open Go.RowKit Go.Shelf Go.Proofs.YtkdlbocjgbmbdaaW.PrintWords
set_option linter.unusedVariables false
attribute [local go_sem] Oper.semAt_some
attribute [local go_sem] wide_fn wide_asked
theorem exposed1_any (n : Int) (w : World) : Calls Try.prog 105 #[.int .i64 n] w fun e w' => e = .returned (.bool (!inB n 0 50)) ∧ w' = w := by
  obtain ⟨b, hb⟩ : ∃ b, b = inB n 0 50 := ⟨_, rfl⟩
  rw [← hb]
  have HB := Lib.hid hb
  clear hb
  go_enter Try.func105, Try.ntmps105
  go_wp2_with (go_at_call 81; refine (in_any _ _ _ _).mono ?_; rw [← HB.out]; rintro e w' ⟨rfl, rfl⟩)
  go_ret
  exact ⟨rfl, rfl⟩
theorem rd_at (xs : List Int) (k : Nat) (h : k < xs.length) : rd xs (k : Int) = xs[k] := by
  simp [rd, List.getD_eq_getElem?_getD, List.getElem?_eq_getElem h]
set_option maxRecDepth 100000 in
set_option maxHeartbeats 4000000 in
theorem index135_any (A : Option Addr) (c : Nat) (ls : List Int) (w : World) (hC : Kd.C (Kd.int .i64) w A ls.length ls) :
    Calls Try.prog 135 #[.slice A ls.length c, .func (.func 105) #[] #[]] w fun e w' => e = .returned (.int .i64 (firstI (fun j => !inB (ls.getD j 0) 0 50) ls.length)) ∧ w' = w := by
  have hmax := Kd.C_max hC
  obtain ⟨r, hr⟩ : ∃ r, r = firstI (fun j => !inB (ls.getD j 0) 0 50) ls.length := ⟨_, rfl⟩
  have HR := Lib.hid hr
  rw [← hr]
  clear hr
  go_enter Try.func135, Try.ntmps135
  go_wp2
  go_loop [8] (fun i => ∃ k : Nat, k ≤ ls.length ∧ i = .int .i64 k ∧ Hid (∀ j, j < k → (!inB (ls.getD j 0) 0 50) = false)) (fun i => ls.length - (intOf i).toNat)
  case atStart => exact ⟨0, Nat.zero_le _, rfl, fun j hj => absurd hj (by omega)⟩
  case round =>
    obtain ⟨k, hk, rfl, hno⟩ := hrel
    by_cases hlt : k < ls.length
    · obtain ⟨ad, hA, c0⟩ := Kd.at_int hC k (by omega) (by omega)
      subst hA
      simp only [Int.toNat_natCast] at c0
      rw [rd_at ls k hlt] at c0
      obtain ⟨d, hd⟩ : ∃ d, d = ls[k] := ⟨_, rfl⟩
      rw [← hd] at c0
      have HG : Hid (ls.getD k 0 = d) := by show _ = d; rw [hd]; simp [List.getD_eq_getElem?_getD, List.getElem?_eq_getElem hlt]
      clear hd
      cases hs : inB d 0 50
      all_goals go_wp2_with (go_at_call 105; refine (exposed1_any _ _).mono ?_; rw [hs]; rintro e w1 ⟨rfl, rfl⟩)
      · go_ret
        exact ⟨by rw [HR.out, firstI_yes (fun j => !inB (ls.getD j 0) 0 50) k (by rw [HG.out, hs]; rfl) hno.out _ hlt]; rfl, rfl⟩
      · go_round
        case rel => exact ⟨k + 1, by omega, by go_num, fun j hj => by
          rcases Nat.lt_or_ge j k with h | h
          · exact hno.out j h
          · obtain rfl : j = k := by omega
            rw [HG.out, hs]; rfl⟩
        case measure => simp [intOf]; omega
    · obtain rfl : k = ls.length := by omega
      go_wp2
      go_ret
      exact ⟨by rw [HR.out, firstI_no (fun j => !inB (ls.getD j 0) 0 50) _ hno.out]; rfl, rfl⟩
def badLot (ls : List Int) : Bool := ls.any fun n => !inB n 0 50
set_option maxHeartbeats 1000000 in
theorem contains104_any (A : Option Addr) (n c : Nat) (ls : List Int) (w : World) (hC : Kd.C (Kd.int .i64) w A n ls) :
    Calls Try.prog 104 #[.slice A n c, .func (.func 105) #[] #[]] w fun e w' => e = .returned (.bool (badLot ls)) ∧ w' = w := by
  obtain rfl : ls.length = n := Kd.C_len hC
  have HE : Hid (decide (0 ≤ firstI (fun j => !inB (ls.getD j 0) 0 50) ls.length) = badLot ls) := firstI_any (fun n => !inB n 0 50) 0 ls
  obtain ⟨i, hi⟩ : ∃ i, i = firstI (fun j => !inB (ls.getD j 0) 0 50) ls.length := ⟨_, rfl⟩
  have HI : Hid (i = firstI (fun j => !inB (ls.getD j 0) 0 50) ls.length) := hi
  clear hi
  go_enter Try.func104, Try.ntmps104
  go_wp2_with (go_at_call 135; refine (index135_any _ _ _ _ hC).mono ?_; rw [← HI.out]; rintro e w1 ⟨rfl, rfl⟩)
  go_ret
  refine ⟨?_, rfl⟩
  rw [← HE.out, ← HI.out]
  rfl
theorem info87s : (Try.prog.info? 87).map (·.size) = some 4 := by kernel_rfl
def exposL (st : List S24) (lot : Int) (plan : List Int) : Nat → List S24
  | 0 => []
  | k + 1 => exposL st lot plan k ++ [⟨expo0 st lot k (plan.getD k 0), expo1 st lot k (plan.getD k 0)⟩]
theorem exposL_len (st : List S24) (lot : Int) (plan : List Int) : ∀ k, (exposL st lot plan k).length = k
  | 0 => rfl
  | k + 1 => by rw [exposL, List.length_append, exposL_len st lot plan k]; rfl
def exposedR (st : List S24) (lot bound held : Int) (plan : List Int) : List S24 × Int :=
  if hedgeE st lot bound held ≠ 0 then ([], hedgeE st lot bound held) else if ((plan.length : Int) == (st.length : Int)) = false then ([], 2) else if badLot plan = true then ([], 1) else (exposL st lot plan plan.length, 0)
set_option maxRecDepth 100000 in
set_option maxHeartbeats 8000000 in
theorem Exposed_any (A : Option Addr) (c : Nat) (st : List S24) (lot bound held : Int) (A1 : Option Addr) (c1 : Nat) (plan : List Int) (w : World) (hC : Kd.C k24 w A st.length st) (hP : Kd.C (Kd.int .i64) w A1 plan.length plan) :
    Calls Try.prog 57 #[.agg #[.slice A st.length c, .int .i64 lot, .int .i64 bound, .int .i64 held], .slice A1 plan.length c1] w fun e w' => ∃ v0_ : Value, e = .returned (.tuple #[v0_, .int .i64 (exposedR st lot bound held plan).2]) ∧ Kd.R k24 24 w' w.heap.size (fun _ => True) v0_ (exposedR st lot bound held plan).1 ∧ Below w.heap.size w w' := by
  have hmax := Kd.C_max hP
  obtain ⟨t, ht⟩ : ∃ t, t = hedgeE st lot bound held := ⟨_, rfl⟩
  have HT := Lib.hid ht
  have b0 := blk_new w 87 #[.slice A st.length c, .int .i64 lot, .int .i64 bound, .int .i64 held]
  have B0 : Below w.heap.size w (w.alloc (.cells #[.slice A st.length c, .int .i64 lot, .int .i64 bound, .int .i64 held] 87)) := below_alloc (Below.refl _ _) _
  have hCH := checkHedge_any A c st lot bound held _ (Kd.C_below hC B0)
  rw [← ht] at hCH
  have HI87 : (Try.prog.info? 87).map (·.size) = some (#[Value.slice A st.length c, .int .i64 lot, .int .i64 bound, .int .i64 held] : Array Value).size := info87s
  by_cases h0 : t = 0
  · have hok : HedgeOk st lot bound held := hedgeE_ok (by rw [← ht]; exact h0)
    have HR : Hid (exposedR st lot bound held plan = if ((plan.length : Int) == (st.length : Int)) = false then ([], 2) else if badLot plan = true then ([], 1) else (exposL st lot plan plan.length, 0)) := by show _ = _; rw [exposedR, ← ht, if_neg (by simpa using h0)]
    clear ht
    subst h0
    cases h1 : ((plan.length : Int) == (st.length : Int)) with
    | false =>
      have HR2 : Hid (exposedR st lot bound held plan = ([], 2)) := by show _ = _; rw [HR.out, if_pos h1]
      clear HR
      go_enter Try.func57, Try.ntmps57
      go_wp2_with (first
        | ((with_reducible refine gate_dst (N := 10) rfl ?_); refine ev_load_row (N := 10) rfl rfl 87 _ rfl w.heap.size rfl (t := 87) (cs := #[.slice A st.length c, .int .i64 lot, .int .i64 bound, .int .i64 held]) b0 Try.underlying87 HI87 ?_)
        | (go_at_call 103; refine hCH.mono ?_; rintro e w1 ⟨rfl, hB1⟩; have b1 := b0.below hB1 b0.lt; have q0 := b1.cell 0 rfl))
      go_ret2
      exact ⟨_, by rw [HR2.out]; rfl, by rw [HR2.out]; exact Kd.R_nil _ _ _ _ _, B0.trans (hB1.mono (by simp))⟩
    | true =>
      cases h2 : badLot plan with
      | true =>
        have HR2 : Hid (exposedR st lot bound held plan = ([], 1)) := by show _ = _; rw [HR.out, if_neg (by rw [h1]; simp), if_pos h2]
        clear HR
        go_enter Try.func57, Try.ntmps57
        go_wp2_with (first
          | ((with_reducible refine gate_dst (N := 10) rfl ?_); refine ev_load_row (N := 10) rfl rfl 87 _ rfl w.heap.size rfl (t := 87) (cs := #[.slice A st.length c, .int .i64 lot, .int .i64 bound, .int .i64 held]) b0 Try.underlying87 HI87 ?_)
          | (go_at_call 103; refine hCH.mono ?_; rintro e w1 ⟨rfl, hB1⟩; have b1 := b0.below hB1 b0.lt; have q0 := b1.cell 0 rfl; have hP1 := Kd.C_below hP (B0.trans (hB1.mono (by simp))))
          | (go_at_call 104; refine (contains104_any _ _ _ _ _ hP1).mono ?_; rw [h2]; rintro e w' ⟨rfl, rfl⟩))
        go_ret2
        exact ⟨_, by rw [HR2.out]; rfl, by rw [HR2.out]; exact Kd.R_nil _ _ _ _ _, B0.trans (hB1.mono (by simp))⟩
      | false =>
        have HR2 : Hid (exposedR st lot bound held plan = (exposL st lot plan plan.length, 0)) := by show _ = _; rw [HR.out, if_neg (by rw [h1]; simp), if_neg (by rw [h2]; simp)]
        clear HR
        have hlen : plan.length = st.length := by have := eq_of_beq h1; omega
        have hlots : Hid (∀ k, k < plan.length → 0 ≤ plan.getD k 0 ∧ plan.getD k 0 ≤ 50) := fun k hk => by
          have h3 := List.any_eq_false.1 h2 plan[k] (List.getElem_mem _)
          rw [List.getD_eq_getElem?_getD, List.getElem?_eq_getElem hk]
          exact inB_true (by simpa using h3)
        have HLEN := Lib.hid hlen
        have hfew := hok.few
        have hpl : plan.length ≤ 20 := by omega
        clear hlen
        go_enter Try.func57, Try.ntmps57
        go_wp2_with (first
          | ((with_reducible refine gate_dst (N := 10) rfl ?_); refine ev_load_row (N := 10) rfl rfl 87 _ rfl w.heap.size rfl (t := 87) (cs := #[.slice A st.length c, .int .i64 lot, .int .i64 bound, .int .i64 held]) b0 Try.underlying87 HI87 ?_)
          | (go_at_call 103; refine hCH.mono ?_; rintro e w1 ⟨rfl, hB1⟩; have b1 := b0.below hB1 b0.lt; have q0 := b1.cell 0 rfl; have hP1 := Kd.C_below hP (B0.trans (hB1.mono (by simp))))
          | (go_at_call 104; refine (contains104_any _ _ _ _ _ hP1).mono ?_; rw [h2]; rintro e w' ⟨rfl, rfl⟩))
        have B1 := B0.trans (hB1.mono (by simp))
        clear hB1 B0 b0 hCH q0 hP1 h1 h2
        go_loopw [7, 27] (fun vt vi wr => ∃ k : Nat, k ≤ plan.length ∧ vi = .int .i64 k ∧ Kd.R k24 24 wr w.heap.size (fun b => b ≠ w.heap.size) vt (exposL st lot plan k) ∧ Blk wr w.heap.size 87 #[.slice A st.length c, .int .i64 lot, .int .i64 bound, .int .i64 held] ∧ Below w.heap.size w wr) (fun _ i _ => plan.length - (intOf i).toNat)
        · exact ⟨0, Nat.zero_le _, rfl, Kd.R_nil _ _ _ _ _, b1, B1⟩
        · clear b1 B1
          obtain ⟨k, hk, rfl, hR, n0, nB⟩ := hrel
          have hz := nB.size
          have hlt0 := n0.lt
          by_cases hlt : k < plan.length
          · obtain ⟨ad, hA, p0⟩ := Kd.at_int (Kd.C_below hP nB) k (by omega) (by omega)
            subst hA
            simp only [Int.toNat_natCast] at p0
            have hl := hlots.out k hlt
            have e0 : rd plan (k : Int) = plan.getD k 0 := by simp [rd]
            rw [e0] at p0
            clear e0
            obtain ⟨n, hn⟩ : ∃ n, n = plan.getD k 0 := ⟨_, rfl⟩
            rw [← hn] at p0 hl
            have HST : Hid (exposL st lot plan (k + 1) = exposL st lot plan k ++ [⟨expo0 st lot k n, expo1 st lot k n⟩]) := by show _ = _; rw [exposL, ← hn]
            clear hn
            have hkd : k < st.length := by have := HLEN.out; omega
            have hCE := fun W h => exposed_any A c st lot bound held k n W (Kd.C_below hC h) hok hkd hl.1 hl.2
            have hel := exposL_len st lot plan k
            have hll : (exposL st lot plan k).length ≤ 20 := by omega
            clear hel
            have hown : some w.heap.size ≠ u7.ownBlock := fun e => (hR.1 w.heap.size e.symm) rfl
            have m0 := n0.cell 0 rfl
            have m1 := n0.cell 1 rfl
            have m2 := n0.cell 2 rfl
            have m3 := n0.cell 3 rfl
            go_wp2_with (first
              | (go_at_call 106; refine (hCE _ nB).mono ?_; rintro e w2 ⟨rfl, hB2⟩; have n1 := n0.below hB2 hlt0; have nB1 := nB.trans (hB2.mono hz); have hR1 := Kd.R_below hR hB2; have hz1 := nB1.size; have hlt1 := n1.lt)
              | ((with_reducible refine gate_builtin (b := .append) (xs := #[.tmp 32, .tmp 37]) rfl ?_); at_builtin; refine Kd.R_append k24 (w0 := w) w.heap.size rfl (.tmp 32) (.tmp 37) 37 24 (.agg #[.int .i64 0, .int .i64 0]) 16 rfl Try.underlying37 info24 rfl (by decide) (by omega) u7 (exposL st lot plan k) ⟨expo0 st lot k n, expo1 st lot k n⟩ [.int .i64 (expo0 st lot k n), .int .i64 (expo1 st lot k n)] (fun b => b ≠ w.heap.size) (fun _ => False) rfl rfl (k24_mkM _ _ _ _) (fun _ hk => hk.elim) ?aF ?aO ?aB ?aS ?aL ?_; (case aF => exact fun b hb => by omega); (case aO => exact hR1); (case aB => exact nB1); (case aS => exact hz1); (case aL => omega); intro v1 w3 ho hb hg hat))
            refine ⟨⟨k + 1, by omega, by push_cast; rfl, by rw [HST.out]; exact ho, n1.grown hg hown, hb⟩, by simp [intOf]; omega⟩
          · obtain rfl : k = plan.length := by omega
            go_wp2
            go_ret2
            exact ⟨_, by rw [HR2.out]; rfl, by rw [HR2.out]; exact Kd.R_mono hR (fun _ _ => trivial), nB⟩
  · have HR : Hid (exposedR st lot bound held plan = ([], t)) := by show _ = _; rw [exposedR, ← ht, if_pos h0]
    clear ht
    go_enter Try.func57, Try.ntmps57
    go_wp2_with (first
      | ((with_reducible refine gate_dst (N := 10) rfl ?_); refine ev_load_row (N := 10) rfl rfl 87 _ rfl w.heap.size rfl (t := 87) (cs := #[.slice A st.length c, .int .i64 lot, .int .i64 bound, .int .i64 held]) b0 Try.underlying87 HI87 ?_)
      | (go_at_call 103; refine hCH.mono ?_; rintro e w1 ⟨rfl, hB1⟩))
    go_ret2
    exact ⟨_, by rw [HR.out]; rfl, by rw [HR.out]; exact Kd.R_nil _ _ _ _ _, B0.trans (hB1.mono (by simp))⟩
end Go.Proofs.Ytkdlbocjgbmbdaa.Print

namespace Go.Proofs.Ytkdlbocjgbmbdaa.Print
open Go.RowKit Go.Shelf Go.Proofs.YtkdlbocjgbmbdaaW.PrintWords
set_option linter.unusedVariables false
attribute [local go_sem] Oper.semAt_some
attribute [local go_sem] wide_fn wide_asked
def intCells (xs : List Int) : Array Value := (xs.map (Value.int .i64)).toArray
theorem intCells_at {xs : List Int} {i : Nat} (h : i < xs.length) : (intCells xs)[i]? = some (.int .i64 (xs.getD i 0)) := by
  simp [intCells, List.getElem?_eq_getElem h, List.getD_eq_getElem?_getD]
theorem intCells_set (xs : List Int) (i : Nat) (b : Int) : (intCells xs).setIfInBounds i (.int .i64 b) = intCells (xs.set i b) := by
  simp [intCells, List.map_set]
def never : Int := 1073741824
def distI (b l : Nat) : Int := max ((b : Int) - l) ((l : Int) - b)
def outB (st : List S24) (lot bound : Int) (d l : Nat) : Bool := decide (expo0 st lot d l < -bound) || decide (bound < expo1 st lot d l)
def costL (st : List S24) (lot bound : Int) (rs : List Int) (d b l : Nat) : Int :=
  if outB st lot bound d l = true then never else min never (distI b l + rs.getD ((d + 1) * 51 + l) 0)
def hedgeV (A : Option Addr) (n c : Nat) (lot bound held : Int) : Array Value := #[.slice A n c, .int .i64 lot, .int .i64 bound, .int .i64 held]
section
variable {W : World} {H n c : Nat} {A : Option Addr} {lot bound held : Int}
theorem hv0 (h : Blk W H 87 (hedgeV A n c lot bound held)) : W.cell? ⟨H, 0, none⟩ = some (.slice A n c) := h.cell 0 rfl
theorem hv1 (h : Blk W H 87 (hedgeV A n c lot bound held)) : W.cell? ⟨H, 1, none⟩ = some (.int .i64 lot) := h.cell 1 rfl
theorem hv2 (h : Blk W H 87 (hedgeV A n c lot bound held)) : W.cell? ⟨H, 2, none⟩ = some (.int .i64 bound) := h.cell 2 rfl
theorem hv3 (h : Blk W H 87 (hedgeV A n c lot bound held)) : W.cell? ⟨H, 3, none⟩ = some (.int .i64 held) := h.cell 3 rfl
end
set_option maxRecDepth 100000 in
set_option maxHeartbeats 8000000 in
theorem cost_any (A : Option Addr) (c : Nat) (st : List S24) (lot bound held : Int) (d b l Hb Rb K cap : Nat) (rs : List Int) (w : World) (hC : Kd.C k24 w A st.length st) (hok : HedgeOk st lot bound held) (hd : d < st.length) (hb : b < 51) (hl : l < 51)
    (hH : Blk w Hb 87 (hedgeV A st.length c lot bound held)) (hR : Blk w Rb 160 #[.slice (some ⟨K, 0, none⟩) (st.length + 1) cap]) (hK : Blk w K 161 (intCells rs)) (hrs : (st.length + 1) * 51 ≤ rs.length) (hv : 0 ≤ rs.getD ((d + 1) * 51 + l) 0 ∧ rs.getD ((d + 1) * 51 + l) 0 ≤ never) :
    Calls Try.prog 109 #[.int .i64 (d : Int), .int .i64 (b : Int), .int .i64 (l : Int), .pointer (some ⟨Hb, 0, none⟩), .pointer (some ⟨Rb, 0, none⟩)] w fun e w' => e = .returned (.int .i64 (costL st lot bound rs d b l)) ∧ Below w.heap.size w w' := by
  have hEX := exposed_any A c st lot bound held d l w hC hok hd (by omega) (by omega)
  have hbd := expo_bound hok hd (l := (l : Int)) (by omega) (by omega)
  have hfew := hok.few
  have hb0 := hok.b0
  have hb1 := hok.b1
  have HO : Hid (outB st lot bound d l = (decide (expo0 st lot d l < -bound) || decide (bound < expo1 st lot d l))) := rfl
  have HCL : Hid (costL st lot bound rs d b l = if outB st lot bound d l = true then never else min never (distI b l + rs.getD ((d + 1) * 51 + l) 0)) := rfl
  generalize expo0 st lot d l = x0 at *
  generalize expo1 st lot d l = x1 at *
  have m0 := hv0 hH
  have m1 := hv1 hH
  have m2 := hv2 hH
  have m3 := hv3 hH
  have HHb := hH.lt
  by_cases h1 : x0 < -bound
  · have HR : Hid (costL st lot bound rs d b l = 1073741824) := by show _ = _; rw [HCL.out, HO.out, if_pos (by simp [h1])]; rfl
    clear HCL HO
    rw [HR.out]
    go_enter Try.func109, Try.ntmps109
    go_wp2_with (go_at_call 106; refine hEX.mono ?_; rintro e w1 ⟨rfl, hB1⟩; have n1 := (hH.below hB1 hH.lt).alloc (.cells #[.int .i64 x0, .int .i64 x1] 24); have q2 := hv2 n1; have hz := hB1.size)
    go_ret
    exact ⟨rfl, below_alloc' hB1 _⟩
  · by_cases h2 : bound < x1
    · have HR : Hid (costL st lot bound rs d b l = 1073741824) := by show _ = _; rw [HCL.out, HO.out, if_pos (by simp [h2])]; rfl
      clear HCL HO
      rw [HR.out]
      go_enter Try.func109, Try.ntmps109
      go_wp2_with (go_at_call 106; refine hEX.mono ?_; rintro e w1 ⟨rfl, hB1⟩; have n1 := (hH.below hB1 hH.lt).alloc (.cells #[.int .i64 x0, .int .i64 x1] 24); have q2 := hv2 n1; have hz := hB1.size)
      go_ret
      exact ⟨rfl, below_alloc' hB1 _⟩
    · have h1' : decide (x0 < -bound) = false := by simpa using h1
      have h2' : decide (bound < x1) = false := by simpa using h2
      obtain ⟨v, hvv⟩ : ∃ v, v = rs.getD ((d + 1) * 51 + l) 0 := ⟨_, rfl⟩
      have HR : Hid (costL st lot bound rs d b l = min 1073741824 (distI b l + v)) := by show _ = _; rw [HCL.out, HO.out, h1', h2', if_neg (by simp), ← hvv]; rfl
      clear HCL HO
      rw [HR.out]
      have hcv := hK.cell ((d + 1) * 51 + l) (intCells_at (by omega))
      rw [← hvv] at hcv hv
      clear hvv
      unfold never at hv
      have hcr := hR.cell 0 rfl
      have hlr : Rb < w.heap.size := hR.lt
      have hlk : K < w.heap.size := hK.lt
      have hdi : 0 ≤ distI b l ∧ distI b l ≤ 50 := by unfold distI; omega
      have hAP := fun W => apart_any (b : Int) (l : Int) W (by omega) (by omega)
      have HDI : Hid (max ((b : Int) - l) ((l : Int) - b) = distI b l) := rfl
      generalize distI b l = q at *
      have hq0 := hdi.1
      have hq1 := hdi.2
      have hv0 := hv.1
      have hv1 := hv.2
      have hw1 : IntKind.i64.wrap ((d : Int) + 1) = (d : Int) + 1 := IntWalk.i64_in _ (by omega)
      have hw2 : ((d : Int) + 1).toNat = d + 1 := by omega
      have hw3 : (0 : Int) ≤ (d : Int) + 1 := by omega
      have hw4 : (d : Int) + 1 < ((st.length + 1 : Nat) : Int) := by omega
      have hw5 : (0 : Int) ≤ (l : Int) := by omega
      have hw6 : (l : Int) < 51 := by omega
      have hw7 : IntKind.i64.wrap (q + v) = q + v := IntWalk.i64_in _ (by omega)
      clear hv hdi
      go_enter Try.func109, Try.ntmps109
      go_wp2_with (go_at_call 106; refine hEX.mono ?_; rintro e w1 ⟨rfl, hB1⟩; have n1 := (hH.below hB1 hH.lt).alloc (.cells #[.int .i64 x0, .int .i64 x1] 24); have q2 := hv2 n1; have hz := hB1.size)
      have hB2 := below_alloc' hB1 (.cells #[.int .i64 x0, .int .i64 x1] 24)
      have r0 := (hR.below hB2 hlr).cell 0 rfl
      have r1 := (hB2.cell (p := ⟨K, (d + 1) * 51 + l, none⟩) hlk).trans hcv
      go_quiet ((go_at_call 110; exact Calls.quiet_of_same ((hAP _).mono fun e w' h => ⟨h.1.trans (by rw [HDI.out]), h.2⟩)))
      go_wp2
      go_ret
      exact ⟨rfl, below_drewN' hB2 _⟩
end Go.Proofs.Ytkdlbocjgbmbdaa.Print

namespace Go.Proofs.Ytkdlbocjgbmbdaa.Print
open Go.RowKit Go.Shelf Go.Proofs.YtkdlbocjgbmbdaaW.PrintWords
set_option linter.unusedVariables false
section
variable (st : List S24) (lot bound : Int)
def costG (d : Nat) (next : Nat → Int) (b l : Nat) : Int := if outB st lot bound d l = true then never else min never (distI b l + next l)
def bestF (d : Nat) (next : Nat → Int) (b : Nat) : Nat → Int
  | 0 => never
  | k + 1 => min (bestF d next b k) (costG st lot bound d next b k)
def restF : Nat → Nat → Int
  | 0 => fun _ => 0
  | m + 1 => fun b => bestF st lot bound (st.length - (m + 1)) (restF m) b 51
/-- How many lots a plan takes on a day. -/
def lotsF (d b : Nat) : Nat := (firstI (fun l => decide (costG st lot bound d (restF st lot bound (st.length - (d + 1))) b l = restF st lot bound (st.length - d) b)) 51).toNat
def planK (held : Nat) : Nat → List Int × Nat
  | 0 => ([], held)
  | d + 1 => ((planK held d).1 ++ [(lotsF st lot bound d (planK held d).2 : Int)], lotsF st lot bound d (planK held d).2)
def hedgedR (held : Int) : List Int × Int × Int :=
  if hedgeE st lot bound held ≠ 0 then ([], 0, hedgeE st lot bound held) else if never ≤ restF st lot bound st.length held.toNat then ([], 0, 13) else ((planK st lot bound held.toNat st.length).1, restF st lot bound st.length held.toNat, 0)
end
section
variable {st : List S24} {lot bound : Int}
theorem distI_nonneg (b l : Nat) : 0 ≤ distI b l := by unfold distI; omega
theorem costG_bounds {d : Nat} {next : Nat → Int} (h : ∀ l, 0 ≤ next l) (b l : Nat) : 0 ≤ costG st lot bound d next b l ∧ costG st lot bound d next b l ≤ never := by
  have h1 := h l
  have h2 := distI_nonneg b l
  unfold costG never
  split <;> omega
theorem bestF_bounds {d : Nat} {next : Nat → Int} (h : ∀ l, 0 ≤ next l) (b : Nat) : ∀ k, 0 ≤ bestF st lot bound d next b k ∧ bestF st lot bound d next b k ≤ never
  | 0 => by simp [bestF, never]
  | k + 1 => by
    have h1 := bestF_bounds (d := d) h b k
    have h2 := costG_bounds (st := st) (lot := lot) (bound := bound) (d := d) h b k
    simp only [bestF]
    omega
theorem restF_bounds : ∀ m b, 0 ≤ restF st lot bound m b ∧ restF st lot bound m b ≤ never
  | 0, b => by simp [restF, never]
  | m + 1, b => bestF_bounds (fun l => (restF_bounds m l).1) b 51
theorem bestF_hit {d : Nat} {next : Nat → Int} {b : Nat} : ∀ k, bestF st lot bound d next b k < never → ∃ l, l < k ∧ costG st lot bound d next b l = bestF st lot bound d next b k
  | 0, h => by simp [bestF] at h
  | k + 1, h => by
    simp only [bestF] at h ⊢
    by_cases hc : costG st lot bound d next b k ≤ bestF st lot bound d next b k
    · exact ⟨k, by omega, by omega⟩
    · obtain ⟨l, hl, he⟩ := bestF_hit k (show bestF st lot bound d next b k < never by omega)
      exact ⟨l, by omega, by omega⟩
theorem bestF_le {d : Nat} {next : Nat → Int} {b : Nat} : ∀ k l, l < k → bestF st lot bound d next b k ≤ costG st lot bound d next b l
  | 0, l, h => absurd h (by omega)
  | k + 1, l, h => by
    simp only [bestF]
    rcases Nat.lt_or_ge l k with h' | h'
    · have := bestF_le (d := d) (next := next) (b := b) k l h'; omega
    · obtain rfl : l = k := by omega
      omega
/-- A plan that is begun below the bound goes on below it. -/
theorem lotsF_spec {d b : Nat} (hd : d < st.length) (h : restF st lot bound (st.length - d) b < never) :
    lotsF st lot bound d b < 51 ∧ costG st lot bound d (restF st lot bound (st.length - (d + 1))) b (lotsF st lot bound d b) = restF st lot bound (st.length - d) b ∧
      (∀ j, j < lotsF st lot bound d b → costG st lot bound d (restF st lot bound (st.length - (d + 1))) b j ≠ restF st lot bound (st.length - d) b) ∧ restF st lot bound (st.length - (d + 1)) (lotsF st lot bound d b) < never := by
  obtain ⟨m, hm⟩ : ∃ m, st.length - d = m + 1 := ⟨st.length - d - 1, by omega⟩
  have hm' : st.length - (d + 1) = m := by omega
  have hd' : st.length - (m + 1) = d := by omega
  have hr : restF st lot bound (m + 1) b = bestF st lot bound d (restF st lot bound m) b 51 := by simp only [restF]; rw [hd']
  unfold lotsF
  rw [hm] at h ⊢
  rw [hm']
  obtain ⟨l, hl, he⟩ := bestF_hit (b := b) 51 (by rw [← hr]; exact h)
  rw [← hr] at he
  -- the first one
  have hge : 0 ≤ firstI (fun l => decide (costG st lot bound d (restF st lot bound m) b l = restF st lot bound (m + 1) b)) 51 := (firstI_ge _ _).2 ⟨l, hl, by simpa using he⟩
  obtain ⟨k, hk51, hk, hno⟩ : ∃ k, k < 51 ∧ costG st lot bound d (restF st lot bound m) b k = restF st lot bound (m + 1) b ∧ ∀ j, j < k → ¬ costG st lot bound d (restF st lot bound m) b j = restF st lot bound (m + 1) b := by
    clear hge
    induction l using Nat.strongRecOn with
    | _ l ih =>
      by_cases hex : ∃ j, j < l ∧ costG st lot bound d (restF st lot bound m) b j = restF st lot bound (m + 1) b
      · obtain ⟨j, hj, hje⟩ := hex
        exact ih j hj (by omega) hje
      · exact ⟨l, hl, he, fun j hj h2 => hex ⟨j, hj, h2⟩⟩
  have hf : firstI (fun l => decide (costG st lot bound d (restF st lot bound m) b l = restF st lot bound (m + 1) b)) 51 = k := firstI_yes _ k (by simpa using hk) (fun j hj => by simpa using hno j hj) 51 hk51
  rw [hf]
  simp only [Int.toNat_natCast]
  refine ⟨hk51, hk, hno, ?_⟩
  have hc : costG st lot bound d (restF st lot bound m) b k < never := by rw [hk]; exact h
  have h2 := distI_nonneg b k
  have h3 := restF_bounds (st := st) (lot := lot) (bound := bound) m k
  unfold costG at hc
  split at hc
  · omega
  · omega
theorem planK_len (held : Nat) : ∀ d, (planK st lot bound held d).1.length = d
  | 0 => rfl
  | d + 1 => by simp [planK, planK_len held d]
theorem planK_ok {held : Nat} (hh : held < 51) (h : restF st lot bound st.length held < never) : ∀ d, d ≤ st.length → (planK st lot bound held d).2 < 51 ∧ restF st lot bound (st.length - d) (planK st lot bound held d).2 < never
  | 0, _ => ⟨hh, h⟩
  | d + 1, hd => by
    have h1 := planK_ok hh h d (by omega)
    have h2 := lotsF_spec (by omega) h1.2
    simp only [planK]
    exact ⟨h2.1, h2.2.2.2⟩
/-- What the rows of the table hold. -/
def RowsDone (st : List S24) (lot bound : Int) (rs : List Int) (m : Nat) : Prop := ∀ d b, st.length - m ≤ d → d ≤ st.length → b < 51 → rs.getD (d * 51 + b) 0 = restF st lot bound (st.length - d) b
theorem costL_done {rs : List Int} {m : Nat} (h : RowsDone st lot bound rs m) {d b l : Nat} (hd : st.length - m ≤ d + 1) (hd' : d < st.length) (hl : l < 51) : costL st lot bound rs d b l = costG st lot bound d (restF st lot bound (st.length - (d + 1))) b l := by
  have h2 : rs.getD ((d + 1) * 51 + l) 0 = restF st lot bound (st.length - (d + 1)) l := h (d + 1) l hd (by omega) hl
  unfold costL costG
  rw [h2]
end
def z161 : Value := .agg (Array.replicate 51 (.int .i64 0))
theorem info161' : (Try.prog.info? 161).map (fun i => (i.zero, i.size, i.bytes)) = some (some z161, 51, 408) := by kernel_rfl
theorem info161 : ∃ i, Try.prog.info? 161 = some i ∧ i.zero = some z161 ∧ i.size = 51 ∧ i.bytes = 408 := by
  have h := info161'
  cases hi : Try.prog.info? 161 with
  | none => rw [hi] at h; simp at h
  | some i =>
    rw [hi] at h
    simp only [Option.map_some, Option.some.injEq, Prod.mk.injEq] at h
    exact ⟨i, rfl, h⟩
theorem made161 (n : Nat) : madeCells z161.cells (n * 51) = intCells (List.replicate (n * 51) 0) := by
  have hz : z161.cells = Array.replicate 51 (.int .i64 0) := rfl
  rw [hz]
  apply Array.ext
  · simp [madeCells, intCells]
  · intro i h1 h2
    simp only [madeCells, intCells, List.map_replicate, Array.getElem_map, Array.getElem_range, Array.size_replicate, List.getElem_toArray, List.getElem_replicate]
    have h3 : i % 51 < 51 := Nat.mod_lt _ (by omega)
    rw [getElem!_pos _ _ (by simpa using h3)]
    simp
theorem run_make160 (n : Nat) (hn : n ≤ 21) (W : World) :
    (Instr.makeSlice 160 (.int .i64 (n : Int)) (.int .i64 (n : Int))).run Try.prog W = .ok (.slice (some ⟨W.heap.size, 0, none⟩) n n) (W.alloc (.cells (intCells (List.replicate (n * 51) 0)) 161)) := by
  obtain ⟨i, h1, h2, h3, h4⟩ := info161
  have := run_make (P := Try.prog) W 160 161 i z161 Try.underlying160 h1 h2 .i64 .i64 n n (by omega) (by omega) (by rw [h4]; omega) (by omega)
  rw [h3] at this
  simp only [Int.toNat_natCast] at this
  rw [made161] at this
  exact this
end Go.Proofs.Ytkdlbocjgbmbdaa.Print

namespace Go.Proofs.Ytkdlbocjgbmbdaa.Print
open Go.RowKit Go.Shelf Go.Proofs.YtkdlbocjgbmbdaaW.PrintWords
set_option linter.unusedVariables false
attribute [local go_sem] Oper.semAt_some
attribute [local go_sem] wide_fn wide_asked
theorem rows0 (st : List S24) (lot bound : Int) (n : Nat) : RowsDone st lot bound (List.replicate ((st.length + 1) * 51) (0 : Int)) 0 := fun d b h1 h2 hb => by
  obtain rfl : d = st.length := by omega
  rw [Nat.sub_self, restF, List.getD_eq_getElem?_getD, List.getElem?_replicate]
  split <;> rfl
theorem own_kept {w w' : World} {base : Nat} {e : TypeId} {size n : Nat} {v : Value} {xs : List Value} (h : w.ownsRow base e size v n xs) (hB : Below w.heap.size w w') : w'.ownsRow base e size v n xs :=
  h.kept (row := none) ⟨hB.os, hB.tape, hB.output, hB.size, fun k hk _ => hB.block k hk⟩ (by cases v.ownBlock <;> simp)
theorem own_low {w : World} {base base' : Nat} {e : TypeId} {size n : Nat} {v : Value} {xs : List Value} (h : w.ownsRow base e size v n xs) (hb : base' ≤ base) : w.ownsRow base' e size v n xs := by
  refine ⟨h.1, ?_⟩
  rcases h.2 with h | ⟨g, cap, cur, h1, h2, h3⟩
  · exact .inl h
  · exact .inr ⟨g, cap, cur, h1, by omega, h3⟩
theorem own_form {w : World} {base : Nat} {e : TypeId} {size n : Nat} {v : Value} {xs : List Value} (h : w.ownsRow base e size v n xs) : ∃ A c, v = .slice A n c ∧ n ≤ c ∧ (A = none → n = 0) ∧ ∀ b, A = some b → ∃ g, b = ⟨g, 0, none⟩ := by
  rcases h.2 with ⟨rfl, rfl⟩ | ⟨g, cap, cur, rfl, h2, h3, h4, _⟩
  · exact ⟨none, 0, rfl, Nat.le_refl _, fun _ => rfl, fun b hb => by cases hb⟩
  · refine ⟨_, cap, rfl, h4, fun hb => ?_, fun b hb => ?_⟩
    · cases hb
    · injection hb with hb
      exact ⟨g, hb.symm⟩
set_option maxRecDepth 100000 in
theorem slice_clip (A : Option Addr) (d c : Nat) (h : d ≤ c) (W : World) : (Instr.slice 27 (.slice A d c) none (some (.int .i64 (d : Int))) (some (.int .i64 (d : Int)))).run Try.prog W = .ok (.slice A d d) W := by
  have h1 := run_slice_hm (P := Try.prog) W 27 A d c Try.underlying27 .i64 .i64 (d : Int) (d : Int) (by omega) (by omega) (by omega)
  rw [h1]
  have h2 : (sizeOf (Try.prog.elem 27)).run Try.prog W = .ok 1 W := Try.sizeOf3 W
  rw [h2]
  have h3 : A.map (·.add 0) = A := by
    cases A with
    | none => rfl
    | some a => cases a; rfl
  simp only [Result.andThen, sliced, Int.toNat_natCast, Nat.zero_mul, Nat.sub_zero, h3, ite_self]
theorem info3' : ∃ i, Try.prog.info? 3 = some i ∧ i.zero = some (.int .i64 0) ∧ i.size = 1 ∧ i.bytes = 8 := by
  have h := info3
  cases hi : Try.prog.info? 3 with
  | none => rw [hi] at h; simp at h
  | some i =>
    rw [hi] at h
    simp only [Option.map_some, Option.some.injEq, Prod.mk.injEq] at h
    exact ⟨i, rfl, h⟩
theorem plan_cells {w : World} {base n : Nat} {A : Option Addr} {c : Nat} {xs : List Value} (h : w.ownsRow base 3 1 (.slice A n c) n xs) (hA : ∀ b, A = some b → ∃ g, b = ⟨g, 0, none⟩) : ∀ b, A = some b → ∀ j u, xs[j]? = some u → w.cell? (b.add j) = some u := by
  intro b hb j u hu
  obtain ⟨g, rfl⟩ := hA b hb
  exact h.cells (g := g) (by rw [hb]; rfl) j u hu
theorem new_cell (w : World) (v : Value) : ∀ j u, [v][j]? = some u → (w.alloc (.cells #[v] 3)).cell? ((⟨w.heap.size, 0, none⟩ : Addr).add j) = some u := by
  intro j u hu
  rcases j with _ | j
  · simp at hu
    subst hu
    rw [addr0]
    exact (blk_new w 3 #[v]).cell 0 rfl
  · simp at hu
structure HW (w : World) (A : Option Addr) (c : Nat) (st : List S24) (lot bound held : Int) (K : Nat) (rs : List Int) (W : World) : Prop where
  len : rs.length = (st.length + 1) * 51
  h : Blk W w.heap.size 87 (hedgeV A st.length c lot bound held)
  r : Blk W (K + 1) 160 #[.slice (some ⟨K, 0, none⟩) (st.length + 1) (st.length + 1)]
  k : Blk W K 161 (intCells rs)
  b : Below w.heap.size w W
  lt : w.heap.size < K
section
variable {w : World} {A : Option Addr} {c : Nat} {st : List S24} {lot bound held : Int} {K : Nat} {rs : List Int} {W W' : World}
theorem HW.below (h : HW w A c st lot bound held K rs W) (hb : Below W.heap.size W W') : HW w A c st lot bound held K rs W' :=
  ⟨h.len, h.h.below hb h.h.lt, h.r.below hb h.r.lt, h.k.below hb h.k.lt, h.b.trans (hb.mono h.b.size), h.lt⟩
theorem HW.set (h : HW w A c st lot bound held K rs W) (i : Nat) (v : Int) : HW w A c st lot bound held K (rs.set i v) (W.setCell ⟨K, i, none⟩ (.int .i64 v)) :=
  ⟨by rw [List.length_set]; exact h.len, h.h.far (by have := h.lt; simp; omega) _, h.r.far (by simp) _, by rw [← intCells_set]; exact h.k.set i _, h.b.setCell (p := ⟨K, i, none⟩) (by have := h.lt; dsimp only; omega) _, h.lt⟩
theorem HW.grown (h : HW w A c st lot bound held K rs W) {row : Option Nat} (hg : W.grownBy W' row) (h1 : some w.heap.size ≠ row) (h2 : some (K + 1) ≠ row) (h3 : some K ≠ row) (hb : Below w.heap.size w W') : HW w A c st lot bound held K rs W' :=
  ⟨h.len, h.h.grown hg h1, h.r.grown hg h2, h.k.grown hg h3, hb, h.lt⟩
theorem HW.cost (h : HW w A c st lot bound held K rs W) (hC : Kd.C k24 w A st.length st) (hok : HedgeOk st lot bound held) {m : Nat} (hd : RowsDone st lot bound rs m) {d b l : Nat} (hdm : st.length - m ≤ d + 1) (hdn : d < st.length) (hb : b < 51) (hl : l < 51) :
    Calls Try.prog 109 #[.int .i64 (d : Int), .int .i64 (b : Int), .int .i64 (l : Int), .pointer (some ⟨w.heap.size, 0, none⟩), .pointer (some ⟨K + 1, 0, none⟩)] W fun e w' => e = .returned (.int .i64 (costG st lot bound d (restF st lot bound (st.length - (d + 1))) b l)) ∧ Below W.heap.size W w' := by
  have h1 := cost_any A c st lot bound held d b l w.heap.size (K + 1) K (st.length + 1) rs W (Kd.C_below hC h.b) hok hdn hb hl h.h h.r h.k (by rw [h.len]; exact Nat.le_refl _) (by rw [show rs.getD ((d + 1) * 51 + l) 0 = restF st lot bound (st.length - (d + 1)) l from hd (d + 1) l hdm (by omega) hl]; exact restF_bounds _ _)
  rw [costL_done hd hdm hdn hl] at h1
  exact h1
/-- One entry more of a row. -/
theorem rowsDone_set {m d b : Nat} {v : Int} (h : RowsDone st lot bound rs m) (hd : d + 1 ≤ st.length - m) (hb : b < 51) : RowsDone st lot bound (rs.set (d * 51 + b) v) m := fun d' b' h1 h2 h3 => by
  rw [← h d' b' h1 h2 h3, List.getD_eq_getElem?_getD, List.getD_eq_getElem?_getD, List.getElem?_set_ne (by omega)]
end
set_option maxRecDepth 100000 in
set_option maxHeartbeats 16000000 in
theorem Hedged_any (A : Option Addr) (c : Nat) (st : List S24) (lot bound held : Int) (w : World) (hC : Kd.C k24 w A st.length st) :
    Calls Try.prog 59 #[.agg #[.slice A st.length c, .int .i64 lot, .int .i64 bound, .int .i64 held]] w fun e w' => ∃ v0_ : Value, e = .returned (.tuple #[v0_, .int .i64 (hedgedR st lot bound held).2.1, .int .i64 (hedgedR st lot bound held).2.2]) ∧ Kd.R (Kd.int .i64) 3 w' w.heap.size (fun _ => True) v0_ (hedgedR st lot bound held).1 ∧ Below w.heap.size w w' := by
  have hmf : ∀ (fn : Fn) (first cap : Array Value) (w : World), (Instr.makeFunc fn first cap).run Try.prog w = .ok (.func fn first cap) w := fun _ _ _ _ => rfl
  obtain ⟨t, ht⟩ : ∃ t, t = hedgeE st lot bound held := ⟨_, rfl⟩
  have HT := Lib.hid ht
  have b0 : Blk (w.alloc (.cells #[.slice A st.length c, .int .i64 lot, .int .i64 bound, .int .i64 held] 87)) w.heap.size 87 (hedgeV A st.length c lot bound held) := blk_new w 87 _
  have B0 : Below w.heap.size w (w.alloc (.cells #[.slice A st.length c, .int .i64 lot, .int .i64 bound, .int .i64 held] 87)) := below_alloc (Below.refl _ _) _
  have hCH := checkHedge_any A c st lot bound held _ (Kd.C_below hC B0)
  rw [← ht] at hCH
  have m0 := hv0 b0
  have m1 := hv1 b0
  have m2 := hv2 b0
  have m3 := hv3 b0
  by_cases h0 : t = 0
  · have hok : HedgeOk st lot bound held := hedgeE_ok (by rw [← ht]; exact h0)
    have HR : Hid (hedgedR st lot bound held = if never ≤ restF st lot bound st.length held.toNat then ([], 0, 13) else ((planK st lot bound held.toNat st.length).1, restF st lot bound st.length held.toNat, 0)) := by show _ = _; rw [hedgedR, ← ht, if_neg (by simpa using h0)]
    clear ht
    subst h0
    have hfew := hok.few
    have hne := hok.ne
    have hmk : ∀ W : World, (Instr.makeSlice 160 (.int .i64 ((st.length : Int) + 1)) (.int .i64 ((st.length : Int) + 1))).run Try.prog W = .ok (.slice (some ⟨W.heap.size, 0, none⟩) (st.length + 1) (st.length + 1)) (W.alloc (.cells (intCells (List.replicate ((st.length + 1) * 51) (0 : Int))) 161)) := fun W => by
      have h := run_make160 (st.length + 1) (by omega) W
      rwa [show ((st.length + 1 : Nat) : Int) = (st.length : Int) + 1 from by omega] at h
    go_enter Try.func59, Try.ntmps59
    go_wp2_with (go_at_call 103; refine hCH.mono ?_; rintro e w1 ⟨rfl, hB1⟩; have b1 := b0.below hB1 b0.lt; have q0 := hv0 b1; have q1 := fun o1 o2 => hv0 ((b1.alloc o1).alloc o2))
    have HW0 : HW w A c st lot bound held w1.heap.size (List.replicate ((st.length + 1) * 51) (0 : Int)) ((w1.alloc (.cells (intCells (List.replicate ((st.length + 1) * 51) (0 : Int))) 161)).alloc (.cells #[.slice (some ⟨w1.heap.size, 0, none⟩) (st.length + 1) (st.length + 1)] 160)) :=
      ⟨by simp, (b1.alloc _).alloc _, blk_new' (by simp), (blk_new w1 161 _).alloc _, below_alloc' (below_alloc' (B0.trans (hB1.mono (by simp))) _) _, by have := hB1.size; simp at this; omega⟩
    have HD0 := rows0 st lot bound 0
    generalize ((w1.alloc (.cells (intCells (List.replicate ((st.length + 1) * 51) (0 : Int))) 161)).alloc (.cells #[.slice (some ⟨w1.heap.size, 0, none⟩) (st.length + 1) (st.length + 1)] 160)) = W0 at *
    generalize List.replicate ((st.length + 1) * 51) (0 : Int) = rs0 at *
    clear hCH b1 q0 q1 hB1 b0 B0 m0 m1 m2 m3 hmk
    generalize w1.heap.size = K at *
    go_loopw [8] (fun vd wr => ∃ (m : Nat) (rs : List Int), m ≤ st.length ∧ vd = .int .i64 ((st.length : Int) - 1 - m) ∧ HW w A c st lot bound held K rs wr ∧ Hid (RowsDone st lot bound rs m)) (fun vd _ => (intOf vd + 1).toNat)
    · exact ⟨0, rs0, Nat.zero_le _, by simp, HW0, HD0⟩
    · clear HW0 HD0
      obtain ⟨m, rs, hm, rfl, H, HD⟩ := hrel
      by_cases hlt : m < st.length
      · obtain ⟨d, hd⟩ : ∃ d : Nat, (st.length : Int) - 1 - m = (d : Int) := ⟨st.length - 1 - m, by omega⟩
        rw [hd]
        have hdn : d < st.length := by omega
        have hdm : st.length - m = d + 1 := by omega
        have hz : (0 : Int) ≤ (d : Int) := by omega
        have hdm' : st.length - d = m + 1 := by omega
        have hdm'' : st.length - (m + 1) = d := by omega
        have hdm3 : st.length - (d + 1) = m := by omega
        go_wp2
        go_loopw [35] (fun vb wr => ∃ (b : Nat) (rs : List Int), b ≤ 51 ∧ vb = .int .i64 b ∧ HW w A c st lot bound held K rs wr ∧ Hid (RowsDone st lot bound rs m) ∧ Hid (∀ j, j < b → rs.getD (d * 51 + j) 0 = restF st lot bound (st.length - d) j)) (fun vb _ => 51 - (intOf vb).toNat)
        · exact ⟨0, rs, by omega, rfl, H, HD, fun j hj => absurd hj (by omega)⟩
        · clear H HD
          obtain ⟨b, rs, hb, rfl, H, HD, HJ⟩ := hrel
          by_cases hb51 : b < 51
          · have hzb : (b : Int) < 51 := by omega
            go_wp2
            go_loopw [10, 38] (fun vx vl wr => ∃ (l : Nat), l ≤ 51 ∧ vl = .int .i64 l ∧ vx = .int .i64 (bestF st lot bound d (restF st lot bound (st.length - (d + 1))) b l) ∧ HW w A c st lot bound held K rs wr) (fun _ vl _ => 51 - (intOf vl).toNat)
            · exact ⟨0, by omega, rfl, rfl, H⟩
            · clear H
              obtain ⟨l, hl, rfl, rfl, H⟩ := hrel
              by_cases hl51 : l < 51
              · have hzl : (l : Int) < 51 := by omega
                have hCO := H.cost hC hok HD.out (by omega) hdn hb51 hl51
                have HB : Hid (bestF st lot bound d (restF st lot bound (st.length - (d + 1))) b (l + 1) = min (bestF st lot bound d (restF st lot bound (st.length - (d + 1))) b l) (costG st lot bound d (restF st lot bound (st.length - (d + 1))) b l)) := rfl
                generalize bestF st lot bound d (restF st lot bound (st.length - (d + 1))) b l = x at *
                generalize costG st lot bound d (restF st lot bound (st.length - (d + 1))) b l = y at *
                go_wp2_with (go_at_call 109; refine hCO.mono ?_; rintro e w2 ⟨rfl, hB2⟩)
                exact ⟨⟨l + 1, by omega, by push_cast; rfl, by rw [HB.out], H.below hB2⟩, by simp [intOf]; omega⟩
              · obtain rfl : l = 51 := by omega
                have HX : Hid (bestF st lot bound d (restF st lot bound (st.length - (d + 1))) b 51 = restF st lot bound (st.length - d) b) := by
                  show _ = _
                  rw [hdm', restF, hdm'', hdm3]
                generalize bestF st lot bound d (restF st lot bound (st.length - (d + 1))) b 51 = x at *
                have hidx : d * 51 + b < rs.length := by rw [H.len]; omega
                have q0 := H.r.cell 0 rfl
                have q1 := H.k.cell (d * 51 + b) (intCells_at hidx)
                have q2 := H.k.frozen (d * 51 + b)
                have hw1 : (d : Int) < ((st.length + 1 : Nat) : Int) := by omega
                go_wp2
                refine ⟨⟨b + 1, _, by omega, by push_cast; rfl, H.set (d * 51 + b) x, rowsDone_set HD.out (by omega) hb51, fun j hj => ?_⟩, by simp [intOf]; omega⟩
                rcases Nat.lt_or_ge j b with h | h
                · rw [← HJ.out j h, List.getD_eq_getElem?_getD, List.getD_eq_getElem?_getD, List.getElem?_set_ne (by omega)]
                · obtain rfl : j = b := by omega
                  rw [List.getD_eq_getElem?_getD, List.getElem?_set_self hidx, ← HX.out]; rfl
          · obtain rfl : b = 51 := by omega
            go_wp2
            refine ⟨⟨m + 1, rs, by omega, ?_, H, fun d' b' h1 h2 h3 => ?_⟩, by first | (simp [intOf]; done) | (simp [intOf]; omega)⟩
            · rw [show (st.length : Int) - 1 - ((m + 1 : Nat) : Int) = (d : Int) - 1 by omega]
            · rcases Nat.lt_or_ge d d' with h | h
              · exact HD.out d' b' (by omega) h2 h3
              · obtain rfl : d = d' := by omega
                exact HJ.out b' h3
      · obtain rfl : m = st.length := by omega
        rw [show (st.length : Int) - 1 - (st.length : Int) = -1 by omega]
        go_wp2
        have HD0 : Hid (RowsDone st lot bound rs st.length) := HD
        obtain ⟨h, rfl⟩ : ∃ h : Nat, held = (h : Int) := ⟨held.toNat, by have := hok.h0; omega⟩
        have hh51 : h < 51 := by have := hok.h1; omega
        have HV : Hid (rs.getD (0 * 51 + h) 0 = restF st lot bound st.length h) := HD.out 0 h (by omega) (by omega) hh51
        have q0 := H.r.cell 0 rfl
        have q1 := hv3 H.h
        have q2 := H.k.cell (0 * 51 + h) (intCells_at (by rw [H.len]; omega))
        rw [HV.out, Nat.zero_mul, Nat.zero_add] at q2
        have hbd := restF_bounds (st := st) (lot := lot) (bound := bound) st.length h
        have HRT : Hid (hedgedR st lot bound h = if never ≤ restF st lot bound st.length h then ([], 0, 13) else ((planK st lot bound h st.length).1, restF st lot bound st.length h, 0)) := by
          show _ = _; rw [HR.out]; simp only [Int.toNat_natCast]
        clear HR HV
        have hz0 : (0 : Int) < ((st.length + 1 : Nat) : Int) := by omega
        have hz1 : (h : Int) < 51 := by omega
        obtain ⟨tr, htr⟩ : ∃ tr, tr = restF st lot bound st.length h := ⟨_, rfl⟩
        have HTR := Lib.hid htr
        rw [← htr] at q2 hbd HRT
        clear htr
        unfold never at hbd
        go_quiet (fail)
        have H2 : HW w A c st lot bound h K rs (wr.drewN nq) := H.below (below_drewN' (Below.refl _ _) nq)
        clear H q0 q1 q2
        have q5 := hv3 H2.h
        have q6 := hv0 H2.h
        by_cases hnv : never ≤ tr
        · have HR2 : Hid (hedgedR st lot bound h = ([], 0, 13)) := by show _ = _; rw [HRT.out, if_pos hnv]
          unfold never at hnv
          clear HRT
          go_wp2
          go_ret3
          exact ⟨_, by rw [HR2.out]; rfl, by rw [HR2.out]; exact Kd.R_nil _ _ _ _ _, H2.b⟩
        · have HR2 : Hid (hedgedR st lot bound h = ((planK st lot bound h st.length).1, tr, 0)) := by show _ = _; rw [HRT.out, if_neg hnv]
          have HLT : Hid (restF st lot bound st.length h < never) := by show _ < _; rw [← HTR.out]; omega
          have hnv' : ¬ (1073741824 : Int) ≤ tr := hnv
          clear HRT hnv
          go_wp2
          have P0 : (wr.drewN nq).ownsRow w.heap.size 3 1 (.slice none 0 0) 0 (encs (Value.int .i64) (planK st lot bound h 0).1) := World.ownsRow_nil _ _ _ _
          generalize wr.drewN nq = W1 at *
          clear q5 q6
          go_loopw [2, 12, 69] (fun vp vb vd wr => ∃ (d : Nat), d ≤ st.length ∧ vd = .int .i64 d ∧ vb = .int .i64 ((planK st lot bound h d).2 : Int) ∧ wr.ownsRow w.heap.size 3 1 vp d (encs (Value.int .i64) (planK st lot bound h d).1) ∧ (∀ k, vp.ownBlock = some k → k ≠ w.heap.size ∧ k ≠ K ∧ k ≠ K + 1) ∧ HW w A c st lot bound h K rs wr) (fun _ _ vd _ => st.length - (intOf vd).toNat)
          · exact ⟨0, by omega, rfl, rfl, P0, fun k hk => by simp [Value.ownBlock] at hk, H2⟩
          · clear P0 H2
            obtain ⟨d, hd, rfl, rfl, HP, HO, H⟩ := hrel
            by_cases hdn : d < st.length
            · have hpk := planK_ok hh51 HLT.out d hd
              have hls := lotsF_spec hdn hpk.2
              have HST : Hid (planK st lot bound h (d + 1) = ((planK st lot bound h d).1 ++ [(lotsF st lot bound d (planK st lot bound h d).2 : Int)], lotsF st lot bound d (planK st lot bound h d).2)) := rfl
              have HV : Hid (rs.getD (d * 51 + (planK st lot bound h d).2) 0 = restF st lot bound (st.length - d) (planK st lot bound h d).2) := HD0.out d _ (by omega) hd hpk.1
              have HN : Hid ((planK st lot bound h d).1.length = d) := planK_len h d
              generalize (planK st lot bound h d).1 = ps at *
              generalize (planK st lot bound h d).2 = b at *
              have hb51 := hpk.1
              have HC := Lib.hid hls.2.1
              have HNO := Lib.hid hls.2.2.1
              have hl51 := hls.1
              clear hpk hls
              generalize lotsF st lot bound d b = L at *
              have q0 := H.r.cell 0 rfl
              have q1 := H.k.cell (d * 51 + b) (intCells_at (by rw [H.len]; omega))
              rw [HV.out] at q1
              obtain ⟨due, hdue⟩ : ∃ due, due = restF st lot bound (st.length - d) b := ⟨_, rfl⟩
              rw [← hdue] at q1 HC HNO
              clear hdue HV
              have hw1 : (d : Int) < ((st.length + 1 : Nat) : Int) := by omega
              have hw2 : (b : Int) < 51 := by omega
              obtain ⟨A2, c2, hu2, hdc, hA0, hA1⟩ := own_form HP
              subst hu2
              have hsl := fun W => slice_clip A2 d c2 hdc W
              have HA0 := Lib.hid hA0
              have HA1 := Lib.hid hA1
              have HOO := Lib.hid HO
              clear hdc hA0 hA1 HO
              go_wp2
              go_loopw [15] (fun vl wr => ∃ (l : Nat), l ≤ L ∧ vl = .int .i64 l ∧ wr.ownsRow w.heap.size 3 1 (.slice A2 d c2) d (encs (Value.int .i64) ps) ∧ HW w A c st lot bound h K rs wr) (fun vl _ => L - (intOf vl).toNat)
              · exact ⟨0, by omega, rfl, HP, H⟩
              · clear HP H q0 q1
                obtain ⟨l, hl, rfl, HP, H⟩ := hrel
                have hCO := H.cost (d := d) (b := b) (l := l) hC hok HD0.out (by omega) hdn hb51 (by omega)
                rcases Nat.lt_or_ge l L with hlt | hge
                · have hne := HNO.out l hlt
                  generalize costG st lot bound d (restF st lot bound (st.length - (d + 1))) b l = y at *
                  have e1 : (y == due) = false := by simpa using hne
                  have e2 : (y != due) = true := by simpa using hne
                  clear hne
                  go_wp2_with (go_at_call 109; refine hCO.mono ?_; rintro e w2 ⟨rfl, hB2⟩)
                  exact ⟨⟨l + 1, by omega, by push_cast; rfl, own_kept HP hB2, H.below hB2⟩, by simp [intOf]; omega⟩
                · obtain rfl : l = L := by omega
                  rw [HC.out] at hCO
                  have e1 : (due == due) = true := by simp
                  have e2 : (due != due) = false := by simp
                  obtain ⟨i3, j1, j2, j3, j4⟩ := info3'
                  have hol : (encs (Value.int .i64) ps).length = d := by rw [encs_length]; exact HN.out
                  go_wp2_with (first
                    | (go_at_call 109; refine hCO.mono ?_; rintro e w2 ⟨rfl, hB2⟩; have HP2 := own_kept (own_kept HP hB2) (below_alloc (Below.refl _ _) (.cells #[.int .i64 (l : Int)] 3)); have H2 := (H.below hB2).below (below_alloc (Below.refl _ _) (.cells #[.int .i64 (l : Int)] 3)))
                    | ((with_reducible refine gate_builtin (b := .append) (xs := #[.tmp 90, .tmp 92]) rfl ?_); at_builtin; refine wpList_append_grows _ rfl (.tmp 90) (.tmp 92) 27 rfl 3 i3 (.int .i64 0) 1 8 Try.underlying27 j1 j2 j3 j4 rfl (by omega) A2 d d (encs (Value.int .i64) ps) rfl ?hnone ?hlo ?holds ⟨w2.heap.size, 0, none⟩ 1 1 [.int .i64 (l : Int)] rfl rfl ?hc ?h1c ?hfull ?hb1 ?hb2 ?_; (case hnone => exact fun h => ⟨HA0.out h, HA0.out h⟩); (case hlo => omega); (case holds => exact plan_cells HP2 HA1.out); (case hc => exact new_cell w2 _); (case h1c => exact fun u hu => by cases hu with | head => rfl | tail _ h => cases h); (case hfull => omega); (case hb1 => unfold maxLen; omega); (case hb2 => omega); intro v3 w3 ho3 hg3))
                  have hz3 := H2.r.lt
                  have hz4 := H2.b.size
                  refine ⟨⟨d + 1, by omega, by push_cast; rfl, by rw [HST.out], ?_, ?_, H2.grown hg3 (by simp) (by simp) (by simp) (H2.b.grown hg3 hz4 (fun j e => by cases e))⟩, by simp [intOf]; omega⟩
                  · rw [HST.out, encs_append]
                    exact own_low ho3 hz4
                  · intro k hk
                    have h1 := own_base ho3 k hk
                    have h2 := H2.lt
                    omega
            · obtain rfl : d = st.length := by omega
              obtain ⟨A2, c2, hu2, -⟩ := own_form HP
              subst hu2
              go_wp2
              go_ret3
              refine ⟨_, by rw [HR2.out]; rfl, ?_, H.b⟩
              rw [HR2.out]
              exact Kd.R_of_own (by rw [planK_len]; exact HP) (fun _ _ => trivial)
  · have HR : Hid (hedgedR st lot bound held = ([], 0, t)) := by show _ = _; rw [hedgedR, ← ht, if_pos h0]
    clear ht
    go_enter Try.func59, Try.ntmps59
    go_wp2_with (go_at_call 103; refine hCH.mono ?_; rintro e w1 ⟨rfl, hB1⟩)
    go_ret3
    exact ⟨_, by rw [HR.out]; rfl, by rw [HR.out]; exact Kd.R_nil _ _ _ _ _, B0.trans (hB1.mono (by simp))⟩
end Go.Proofs.Ytkdlbocjgbmbdaa.Print

namespace Go.Proofs.Ytkdlbocjgbmbdaa.Print
open Go.RowKit Go.Proofs.YtkdlbocjgbmbdaaW.PrintWords Go.Proofs.YtkdlbocjgbmbdaaW.PrintLast Go.Proofs.YtkdlbocjgbmbdaaW.PrintMore
attribute [local go_sem] max2_int min2_int max_two min_two max_three min_three max_four min_four   -- for this text's walks alone
set_option linter.unusedVariables false
set_option linter.unusedSimpArgs false
def swarfkit_HedgeOf.l0 : Nat → Int → Int → Int → List (S24) → Int → Int → Int → Option ((List (S24)) × Int × Int × Int × Int)
  | 0, _, _, _, _, _, _, _ => none
  | k + 1, x2, x8, x1000, x868000, x868001, x868002, x868003 => if x8 > 0 then ((swarfkit_Feed_Below.f x1000 (wrap64 ((wrap64 (x868001 * x2)) + 1))).bind fun bt872 => ((swarfkit_Feed_Below.f bt872.2 (wrap64 (x868002 + 1))).bind fun bt874 => (if x868000.length < 8796093022208 then (swarfkit_HedgeOf.l0 k x2 (wrap64 (x8 - 1)) bt874.2 (x868000 ++ [(⟨bt872.1, wrap64 (bt872.1 + bt874.1)⟩ : S24)]) x868001 x868002 x868003) else (none)))) else (some (x868000, x868001, x868002, x868003, x1000))
def swarfkit_HedgeOf.f (k : Nat) (s0_0 : Int) (a1 : Int) (a2 : Int) : Option ((List (S24)) × Int × Int × Int × Int) := (swarfkit_Feed_Between.f s0_0 1 9).bind fun bt863 => ((swarfkit_Feed_Below.f bt863.2 (wrap64 (a2 + 1))).bind fun bt865 => ((swarfkit_Feed_Between.f bt865.2 (wrap64 (Int.tdiv bt863.1 2)) (wrap64 (2 * bt863.1))).bind fun bt868 => ((swarfkit_Feed_Between.f bt868.2 1 a1).bind fun bt870 => (swarfkit_HedgeOf.l0 k a2 bt870.1 bt870.2 ([] : List (S24)) bt863.1 bt868.1 bt865.1))))
theorem swarfkit_HedgeOf.mono_l : ∀ k, (∀ y0 y1 y2 y3 y4 y5 y6, LeO (swarfkit_HedgeOf.l0 k y0 y1 y2 y3 y4 y5 y6) (swarfkit_HedgeOf.l0 (k + 1) y0 y1 y2 y3 y4 y5 y6))
  | 0 => fun _ _ _ _ _ _ _ r h => by simp [swarfkit_HedgeOf.l0] at h
  | k + 1 => by
    have ih0 := swarfkit_HedgeOf.mono_l k
    · intro y0 y1 y2 y3 y4 y5 y6
      unfold swarfkit_HedgeOf.l0
      repeat' first
      | (with_reducible exact ih0 _ _ _ _ _ _ _)
      | (with_reducible exact LeO.refl _)
      | (with_reducible exact LeO.none _)
      | (with_reducible refine LeO.ite ?_ ?_)
      | (with_reducible refine LeO.bind ?_ (fun _ => ?_))
      | exact ih0 _ _ _ _ _ _ _
      | exact LeO.none _
      | refine LeO.ite ?_ ?_
      | refine LeO.bind ?_ (fun _ => ?_)
theorem swarfkit_HedgeOf.mono : ∀ a0 a1 a2 k, LeO (swarfkit_HedgeOf.f k a0 a1 a2) (swarfkit_HedgeOf.f (k + 1) a0 a1 a2) := by
  intro a0 a1 a2 k
  have ih0 := swarfkit_HedgeOf.mono_l k
  unfold swarfkit_HedgeOf.f
  repeat' first
      | (with_reducible exact ih0 _ _ _ _ _ _ _)
      | (with_reducible exact LeO.refl _)
      | (with_reducible exact LeO.none _)
      | (with_reducible refine LeO.ite ?_ ?_)
      | (with_reducible refine LeO.bind ?_ (fun _ => ?_))
      | exact ih0 _ _ _ _ _ _ _
      | exact LeO.none _
      | refine LeO.ite ?_ ?_
      | refine LeO.bind ?_ (fun _ => ?_)
def swarfkit_HedgeOf.T7 : Bool × List (List Nat × List Nat) := (true, [([], []), ([0], [0]), ([], []), ([], []), ([], []), ([], []), ([5], [5]), ([6], [6]), ([4, 7], [4, 7]), ([3, 8], [3, 8]), ([2, 9], [2, 9]), ([10], [10]), ([1, 11, 8], [1, 11]), ([0, 1, 2, 3, 4, 5, 6, 7, 8, 9, 10, 11, 12], []), ([13, 12, 12, 0, 1, 2, 3, 4, 5, 6, 7, 8, 9, 10, 11, 12], [12, 13])])
def swarfkit_HedgeOf.B7 : List Nat := [0, 1, 0, 0, 0, 0, 32, 96, 240, 504, 1020, 2044, 4095, 8191, 16383]
theorem swarfkit_HedgeOf.tab7 : rtab .any (opsOf Try.f54 7) = swarfkit_HedgeOf.T7 := by kernel_rfl
theorem swarfkit_HedgeOf.bits7 : waitsOk swarfkit_HedgeOf.T7.2 swarfkit_HedgeOf.B7 = true := by kernel_rfl
set_option maxHeartbeats 8000000 in
set_option maxRecDepth 100000 in
theorem swarfkit_HedgeOf.calls (k : Nat) (g : Nat) (s0_0 : Int) (a1 : Int) (a2 : Int) (r1 : List (S24)) (r2 : Int) (r3 : Int) (r4 : Int) (r5 : Int) (w0 w : World) (hI : IsS124 w0 w g s0_0) (hB : Below w0.heap.size w0 w) (h : swarfkit_HedgeOf.f k s0_0 a1 a2 = some (r1, r2, r3, r4, r5)) :
    Calls Try.prog 54 #[.pointer (some ⟨g, 0, none⟩), .int .i64 a1, .int .i64 a2] w fun e w' => ∃ v0_ : Value, e = .returned (.agg #[v0_, .int .i64 r2, .int .i64 r3, .int .i64 r4]) ∧ Kd.R k24 24 w' w.heap.size (fun _ => True) v0_ r1 ∧ IsS124 w0 w' g r5 ∧ Below w0.heap.size w0 w' ∧ KeepBut w w' g none := by
  have hu87 := Try.underlying87
  have hu24 := Try.underlying24
  have HI0 := Aside0.mk hI
  have HK := Aside0.mk (KeepBut.refl w g none)
  have HL := Aside0.mk hB.size
  clear hI
  have HW0 := Aside0.mk hB.size
  have HB := Aside0.mk hB
  clear hB
  have H : ((swarfkit_Feed_Between.f s0_0 1 9).bind fun bt863 => ((swarfkit_Feed_Below.f bt863.2 (wrap64 (a2 + 1))).bind fun bt865 => ((swarfkit_Feed_Between.f bt865.2 (wrap64 (Int.tdiv bt863.1 2)) (wrap64 (2 * bt863.1))).bind fun bt868 => ((swarfkit_Feed_Between.f bt868.2 1 a1).bind fun bt870 => (swarfkit_HedgeOf.l0 k a2 bt870.1 bt870.2 ([] : List (S24)) bt863.1 bt868.1 bt865.1))))) = some (r1, r2, r3, r4, r5) := h
  clear h
  replace H := Option.bind_eq_some_iff.mp H
  obtain ⟨⟨t863, t864⟩, A40, H⟩ := H
  replace H : ((swarfkit_Feed_Below.f t864 (wrap64 (a2 + 1))).bind fun bt865 => ((swarfkit_Feed_Between.f bt865.2 (wrap64 (Int.tdiv t863 2)) (wrap64 (2 * t863))).bind fun bt868 => ((swarfkit_Feed_Between.f bt868.2 1 a1).bind fun bt870 => (swarfkit_HedgeOf.l0 k a2 bt870.1 bt870.2 ([] : List (S24)) t863 bt868.1 bt865.1)))) = some (r1, r2, r3, r4, r5) := H
  have A4 := Aside0.mk A40
  clear A40
  replace H := Option.bind_eq_some_iff.mp H
  obtain ⟨⟨t865, t866⟩, A50, H⟩ := H
  replace H : ((swarfkit_Feed_Between.f t866 (wrap64 (Int.tdiv t863 2)) (wrap64 (2 * t863))).bind fun bt868 => ((swarfkit_Feed_Between.f bt868.2 1 a1).bind fun bt870 => (swarfkit_HedgeOf.l0 k a2 bt870.1 bt870.2 ([] : List (S24)) t863 bt868.1 t865))) = some (r1, r2, r3, r4, r5) := H
  have A5 := Aside0.mk A50
  clear A50
  replace H := Option.bind_eq_some_iff.mp H
  obtain ⟨⟨t868, t869⟩, A60, H⟩ := H
  replace H : ((swarfkit_Feed_Between.f t869 1 a1).bind fun bt870 => (swarfkit_HedgeOf.l0 k a2 bt870.1 bt870.2 ([] : List (S24)) t863 t868 t865)) = some (r1, r2, r3, r4, r5) := H
  have A6 := Aside0.mk A60
  clear A60
  replace H := Option.bind_eq_some_iff.mp H
  obtain ⟨⟨t870, t871⟩, A70, H⟩ := H
  replace H : (swarfkit_HedgeOf.l0 k a2 t870 t871 ([] : List (S24)) t863 t868 t865) = some (r1, r2, r3, r4, r5) := H
  have A7 := Aside0.mk A70
  clear A70
  have H' := Aside0.mk H
  clear H
  go_enter Try.func54, Try.ntmps54
  go_wp2_with (first | ((with_reducible refine gate_dst (N := 6) rfl ?_); refine box_event ?hg (N := 6) ?hd (cs := #[.slice none 0 0, .int .i64 0, .int .i64 0, .int .i64 0]) (t := 87) ?hr ?_; (case hd => rfl); (case hg => rfl); (case hr => first | (go_simp; done) | (go_simp; rfl)); intro gb862 hg w8 hbox hb; have n0_ := Aside0.mk (IsS124.below (by repeat (first | (with_reducible first | exact HI0.out | apply IsS124.alloc | apply IsS124.drewN | apply IsS124.drew | apply IsS124.set_0) | exact HI0.out)) hb); have n1_ := Aside0.mk (KeepBut.trans (by repeat (first | (with_reducible first | exact HK.out | apply KeepBut.set_ | apply keep_drewN | apply keep_drew | apply keep_alloc) | exact HK.out)) (KeepBut.of_below hb g none) (.inl rfl)); have n2_ := Aside0.mk (below_step (by repeat (first | (with_reducible first | exact HB.out | apply below_alloc | apply pw_below_drewN | apply below_drew1 | refine below_set ?_ (IsS124.ge HI0.out)) | exact HB.out)) hb); have n3_ := Aside0.mk (hbox); have n4_ := Aside0.mk ((by rw [hg]; exact (keep_size (w := w) (g := g) (row := none) (by repeat (first | (with_reducible first | exact HK.out | apply KeepBut.set_ | apply keep_drewN | apply keep_drew | apply keep_alloc) | exact HK.out))) : w.heap.size ≤ gb862)); have n5_ := Aside0.mk ((Nat.le_trans HW0.out (by rw [hg]; exact (keep_size (w := w) (g := g) (row := none) (by repeat (first | (with_reducible first | exact HK.out | apply KeepBut.set_ | apply keep_drewN | apply keep_drew | apply keep_alloc) | exact HK.out))) : w.heap.size ≤ gb862) : w0.heap.size ≤ gb862)); have n6_ := Aside0.mk ((by rw [hg]; exact Nat.ne_of_lt (IsS124.lt (show IsS124 w0 _ g s0_0 from by repeat (first | (with_reducible first | exact HI0.out | apply IsS124.alloc | apply IsS124.drewN | apply IsS124.drew | apply IsS124.set_0) | exact HI0.out))) : g ≠ gb862)); have n7_ := Aside0.mk ((by rw [hg]; exact Nat.ne_of_gt (IsS124.lt (show IsS124 w0 _ g s0_0 from by repeat (first | (with_reducible first | exact HI0.out | apply IsS124.alloc | apply IsS124.drewN | apply IsS124.drew | apply IsS124.set_0) | exact HI0.out))) : gb862 ≠ g)); clear HI0; clear HK; clear HB; have HI0 := n0_; have HK := n1_; have HB := n2_; have BK862 := n3_; have GW862 := n4_; have GE862 := n5_; have NB0_862 := n6_; have NB862_0 := n7_; clear n0_ n1_ n2_ n3_ n4_ n5_ n6_ n7_; clear hb hbox hg) | ((with_reducible refine gate_callee (f := 25) rfl ?_); refine goesL_ (some 11) rfl rfl Try.func25 (by kernel_rfl) rfl #[.pointer (some ⟨g, 0, none⟩), .int .i64 1, .int .i64 9] rfl (by (try simp only [List.map_toArray, List.map_cons, List.map_nil]); first | done | rfl | (simp only [List.length_drop, List.length_take]; rfl)) ?_; (with_reducible refine (swarfkit_Feed_Between.calls g s0_0 1 9 t863 t864 w0 _ ?side1 ?side2 A4.out).mono ?_); (case side1 => repeat (first | (with_reducible first | exact HI0.out | apply IsS124.alloc | apply IsS124.drewN | apply IsS124.drew | apply IsS124.set_0 | refine IsS124.far ?_ NB0_862.out _) | exact HI0.out)); (case side2 => repeat (first | (with_reducible first | exact HB.out | apply below_alloc | apply pw_below_drewN | apply below_drew1 | refine below_set ?_ (IsS124.ge HI0.out) | refine below_set ?_ GE862.out) | exact HB.out)); rintro e w9 ⟨rfl, hi, hb, hk⟩; refine ⟨_, rfl, ?_⟩; have n0_ := Aside0.mk (KeepBut.blk hk (g' := gb862) (o := .cells #[.slice none 0 0, .int .i64 0, .int .i64 0, .int .i64 0] 87 (0, 0)) (by (with_reducible repeat (first | refine blk_drewN ?_ _ | refine blk_drew ?_ | refine blk_alloc ?_ _)); exact BK862.out) NB862_0.out (by simp)); have n1_ := Aside0.mk (KeepBut.trans (by repeat (first | (with_reducible first | exact HK.out | apply KeepBut.set_ | apply keep_drewN | apply keep_drew | apply keep_alloc | refine keep_far ?_ GW862.out _) | exact HK.out)) hk (.inl rfl)); have n2_ := Aside0.mk (hb); have n3_ := Aside0.mk (hi); clear BK862; clear HK; clear HB; clear HI0; have BK862 := n0_; have HK := n1_; have HB := n2_; have HI0 := n3_; clear n0_ n1_ n2_ n3_; (try clear hb); (try clear hb2); (try clear hk); (try clear hi)) | ((with_reducible refine gate_callee (f := 20) rfl ?_); refine goesL_ (some 15) rfl rfl Try.func20 (by kernel_rfl) rfl #[.pointer (some ⟨g, 0, none⟩), .int .i64 (wrap64 (a2 + 1))] rfl (by (try simp only [List.map_toArray, List.map_cons, List.map_nil]); first | done | rfl | (simp only [List.length_drop, List.length_take]; rfl)) ?_; (with_reducible refine (swarfkit_Feed_Below.calls g t864 (wrap64 (a2 + 1)) t865 t866 w0 _ ?side1 ?side2 A5.out).mono ?_); (case side1 => repeat (first | (with_reducible first | exact HI0.out | apply IsS124.alloc | apply IsS124.drewN | apply IsS124.drew | apply IsS124.set_0 | refine IsS124.far ?_ NB0_862.out _) | exact HI0.out)); (case side2 => repeat (first | (with_reducible first | exact HB.out | apply below_alloc | apply pw_below_drewN | apply below_drew1 | refine below_set ?_ (IsS124.ge HI0.out) | refine below_set ?_ GE862.out) | exact HB.out)); rintro e w10 ⟨rfl, hi, hb, hk⟩; refine ⟨_, rfl, ?_⟩; have n0_ := Aside0.mk (KeepBut.blk hk (g' := gb862) (o := .cells #[.slice none 0 0, .int .i64 0, .int .i64 0, .int .i64 0] 87 (0, 0)) (by (with_reducible repeat (first | refine blk_drewN ?_ _ | refine blk_drew ?_ | refine blk_alloc ?_ _)); exact BK862.out) NB862_0.out (by simp)); have n1_ := Aside0.mk (KeepBut.trans (by repeat (first | (with_reducible first | exact HK.out | apply KeepBut.set_ | apply keep_drewN | apply keep_drew | apply keep_alloc | refine keep_far ?_ GW862.out _) | exact HK.out)) hk (.inl rfl)); have n2_ := Aside0.mk (hb); have n3_ := Aside0.mk (hi); clear BK862; clear HK; clear HB; clear HI0; have BK862 := n0_; have HK := n1_; have HB := n2_; have HI0 := n3_; clear n0_ n1_ n2_ n3_; (try clear hb); (try clear hb2); (try clear hk); (try clear hi)) | ((with_reducible refine gate_dst (N := 7) rfl ?_); refine box_event ?hg (N := 7) ?hd (cs := #[.slice none 0 0, .int .i64 0, .int .i64 0, .int .i64 0]) (t := 87) ?hr ?_; (case hd => rfl); (case hg => rfl); (case hr => first | (go_simp; done) | (go_simp; rfl)); intro gb867 hg w11 hbox hb; have n0_ := Aside0.mk (IsS124.below (by repeat (first | (with_reducible first | exact HI0.out | apply IsS124.alloc | apply IsS124.drewN | apply IsS124.drew | apply IsS124.set_0 | refine IsS124.far ?_ NB0_862.out _) | exact HI0.out)) hb); have n1_ := Aside0.mk (blk_below (g := gb862) (o := .cells #[.slice none 0 0, .int .i64 0, .int .i64 0, .int .i64 0] 87 (0, 0)) (by (with_reducible repeat (first | refine blk_drewN ?_ _ | refine blk_drew ?_ | refine blk_alloc ?_ _)); exact BK862.out) hb); have n2_ := Aside0.mk (KeepBut.trans (by repeat (first | (with_reducible first | exact HK.out | apply KeepBut.set_ | apply keep_drewN | apply keep_drew | apply keep_alloc | refine keep_far ?_ GW862.out _) | exact HK.out)) (KeepBut.of_below hb g none) (.inl rfl)); have n3_ := Aside0.mk (below_step (by repeat (first | (with_reducible first | exact HB.out | apply below_alloc | apply pw_below_drewN | apply below_drew1 | refine below_set ?_ (IsS124.ge HI0.out) | refine below_set ?_ GE862.out) | exact HB.out)) hb); have n4_ := Aside0.mk (hbox); have n5_ := Aside0.mk ((by rw [hg]; exact (keep_size (w := w) (g := g) (row := none) (by repeat (first | (with_reducible first | exact HK.out | apply KeepBut.set_ | apply keep_drewN | apply keep_drew | apply keep_alloc | refine keep_far ?_ GW862.out _) | exact HK.out))) : w.heap.size ≤ gb867)); have n6_ := Aside0.mk ((Nat.le_trans HW0.out (by rw [hg]; exact (keep_size (w := w) (g := g) (row := none) (by repeat (first | (with_reducible first | exact HK.out | apply KeepBut.set_ | apply keep_drewN | apply keep_drew | apply keep_alloc | refine keep_far ?_ GW862.out _) | exact HK.out))) : w.heap.size ≤ gb867) : w0.heap.size ≤ gb867)); have n7_ := Aside0.mk ((by rw [hg]; exact Nat.ne_of_lt (blk_lt (g := gb862) (o := .cells #[.slice none 0 0, .int .i64 0, .int .i64 0, .int .i64 0] 87 (0, 0)) (by (with_reducible repeat (first | refine blk_drewN ?_ _ | refine blk_drew ?_ | refine blk_alloc ?_ _)); exact BK862.out)) : gb862 ≠ gb867)); have n8_ := Aside0.mk ((by rw [hg]; exact Nat.ne_of_gt (blk_lt (g := gb862) (o := .cells #[.slice none 0 0, .int .i64 0, .int .i64 0, .int .i64 0] 87 (0, 0)) (by (with_reducible repeat (first | refine blk_drewN ?_ _ | refine blk_drew ?_ | refine blk_alloc ?_ _)); exact BK862.out)) : gb867 ≠ gb862)); have n9_ := Aside0.mk ((by rw [hg]; exact Nat.ne_of_lt (IsS124.lt (show IsS124 w0 _ g t866 from by repeat (first | (with_reducible first | exact HI0.out | apply IsS124.alloc | apply IsS124.drewN | apply IsS124.drew | apply IsS124.set_0 | refine IsS124.far ?_ NB0_862.out _) | exact HI0.out))) : g ≠ gb867)); have n10_ := Aside0.mk ((by rw [hg]; exact Nat.ne_of_gt (IsS124.lt (show IsS124 w0 _ g t866 from by repeat (first | (with_reducible first | exact HI0.out | apply IsS124.alloc | apply IsS124.drewN | apply IsS124.drew | apply IsS124.set_0 | refine IsS124.far ?_ NB0_862.out _) | exact HI0.out))) : gb867 ≠ g)); clear HI0; clear BK862; clear HK; clear HB; have HI0 := n0_; have BK862 := n1_; have HK := n2_; have HB := n3_; have BK867 := n4_; have GW867 := n5_; have GE867 := n6_; have NB862_867 := n7_; have NB867_862 := n8_; have NB0_867 := n9_; have NB867_0 := n10_; clear n0_ n1_ n2_ n3_ n4_ n5_ n6_ n7_ n8_ n9_ n10_; clear hb hbox hg; have hnb12 := NB867_862.out; have hnc12 := NB862_867.out; have hnb13 := NB867_0.out; have hnc13 := NB0_867.out; have hcz14_0 : w11.cell? ⟨gb867, 0, none⟩ = some (.slice none 0 0) := (blk_cell BK867.out 0).trans rfl; have hcz14_1 : w11.cell? ⟨gb867, 1, none⟩ = some (.int .i64 0) := (blk_cell BK867.out 1).trans rfl; have hcz14_2 : w11.cell? ⟨gb867, 2, none⟩ = some (.int .i64 0) := (blk_cell BK867.out 2).trans rfl; have hcz14_3 : w11.cell? ⟨gb867, 3, none⟩ = some (.int .i64 0) := (blk_cell BK867.out 3).trans rfl; have hfz14_0 := blk_frozen BK867.out 0; have hfz14_1 := blk_frozen BK867.out 1; have hfz14_2 := blk_frozen BK867.out 2; have hfz14_3 := blk_frozen BK867.out 3) | ((with_reducible refine gate_callee (f := 25) rfl ?_); refine goesL_ (some 24) rfl rfl Try.func25 (by kernel_rfl) rfl #[.pointer (some ⟨g, 0, none⟩), .int .i64 (wrap64 (Int.tdiv t863 2)), .int .i64 (wrap64 (2 * t863))] rfl (by (try simp only [List.map_toArray, List.map_cons, List.map_nil]); first | done | rfl | (simp only [List.length_drop, List.length_take]; rfl)) ?_; (with_reducible refine (swarfkit_Feed_Between.calls g t866 (wrap64 (Int.tdiv t863 2)) (wrap64 (2 * t863)) t868 t869 w0 _ ?side1 ?side2 A6.out).mono ?_); (case side1 => repeat (first | (with_reducible first | exact HI0.out | apply IsS124.alloc | apply IsS124.drewN | apply IsS124.drew | apply IsS124.set_0 | refine IsS124.far ?_ NB0_862.out _ | refine IsS124.far ?_ NB0_867.out _) | exact HI0.out)); (case side2 => repeat (first | (with_reducible first | exact HB.out | apply below_alloc | apply pw_below_drewN | apply below_drew1 | refine below_set ?_ (IsS124.ge HI0.out) | refine below_set ?_ GE862.out | refine below_set ?_ GE867.out) | exact HB.out)); rintro e w15 ⟨rfl, hi, hb, hk⟩; refine ⟨_, rfl, ?_⟩; have n0_ := Aside0.mk (KeepBut.blk hk (g' := gb862) (o := .cells #[.slice none 0 0, .int .i64 0, .int .i64 0, .int .i64 0] 87 (0, 0)) (by (with_reducible repeat (first | refine blk_drewN ?_ _ | refine blk_drew ?_ | refine blk_alloc ?_ _)); refine blk_far ?_ NB862_867.out _; (with_reducible repeat (first | refine blk_drewN ?_ _ | refine blk_drew ?_ | refine blk_alloc ?_ _)); refine blk_far ?_ NB862_867.out _; (with_reducible repeat (first | refine blk_drewN ?_ _ | refine blk_drew ?_ | refine blk_alloc ?_ _)); refine blk_far ?_ NB862_867.out _; (with_reducible repeat (first | refine blk_drewN ?_ _ | refine blk_drew ?_ | refine blk_alloc ?_ _)); refine blk_far ?_ NB862_867.out _; (with_reducible repeat (first | refine blk_drewN ?_ _ | refine blk_drew ?_ | refine blk_alloc ?_ _)); exact BK862.out) NB862_0.out (by simp)); have n1_ := Aside0.mk (KeepBut.blk hk (g' := gb867) (o := .cells #[.slice none 0 0, .int .i64 t863, .int .i64 0, .int .i64 t865] 87 (0, 0)) (by (with_reducible repeat (first | refine blk_drewN ?_ _ | refine blk_drew ?_ | refine blk_alloc ?_ _)); refine blk_put (cs := #[.slice none 0 0, .int .i64 t863, .int .i64 0, .int .i64 0]) ?_ 3 _ rfl; (with_reducible repeat (first | refine blk_drewN ?_ _ | refine blk_drew ?_ | refine blk_alloc ?_ _)); refine blk_put (cs := #[.slice none 0 0, .int .i64 t863, .int .i64 0, .int .i64 0]) ?_ 2 _ rfl; (with_reducible repeat (first | refine blk_drewN ?_ _ | refine blk_drew ?_ | refine blk_alloc ?_ _)); refine blk_put (cs := #[.slice none 0 0, .int .i64 0, .int .i64 0, .int .i64 0]) ?_ 1 _ rfl; (with_reducible repeat (first | refine blk_drewN ?_ _ | refine blk_drew ?_ | refine blk_alloc ?_ _)); refine blk_put (cs := #[.slice none 0 0, .int .i64 0, .int .i64 0, .int .i64 0]) ?_ 0 _ rfl; (with_reducible repeat (first | refine blk_drewN ?_ _ | refine blk_drew ?_ | refine blk_alloc ?_ _)); exact BK867.out) NB867_0.out (by simp)); have n2_ := Aside0.mk (KeepBut.trans (by repeat (first | (with_reducible first | exact HK.out | apply KeepBut.set_ | apply keep_drewN | apply keep_drew | apply keep_alloc | refine keep_far ?_ GW862.out _ | refine keep_far ?_ GW867.out _) | exact HK.out)) hk (.inl rfl)); have n3_ := Aside0.mk (hb); have n4_ := Aside0.mk (hi); clear BK862; clear BK867; clear HK; clear HB; clear HI0; have BK862 := n0_; have BK867 := n1_; have HK := n2_; have HB := n3_; have HI0 := n4_; clear n0_ n1_ n2_ n3_ n4_; (try clear hb); (try clear hb2); (try clear hk); (try clear hi); have hcz16_0 : w15.cell? ⟨gb867, 0, none⟩ = some (.slice none 0 0) := (blk_cell BK867.out 0).trans rfl; have hcz16_1 : w15.cell? ⟨gb867, 1, none⟩ = some (.int .i64 t863) := (blk_cell BK867.out 1).trans rfl; have hcz16_2 : w15.cell? ⟨gb867, 2, none⟩ = some (.int .i64 0) := (blk_cell BK867.out 2).trans rfl; have hcz16_3 : w15.cell? ⟨gb867, 3, none⟩ = some (.int .i64 t865) := (blk_cell BK867.out 3).trans rfl; have hfz16_0 := blk_frozen BK867.out 0; have hfz16_1 := blk_frozen BK867.out 1; have hfz16_2 := blk_frozen BK867.out 2; have hfz16_3 := blk_frozen BK867.out 3) | ((with_reducible refine gate_callee (f := 25) rfl ?_); refine goesL_ (some 28) rfl rfl Try.func25 (by kernel_rfl) rfl #[.pointer (some ⟨g, 0, none⟩), .int .i64 1, .int .i64 a1] rfl (by (try simp only [List.map_toArray, List.map_cons, List.map_nil]); first | done | rfl | (simp only [List.length_drop, List.length_take]; rfl)) ?_; (with_reducible refine (swarfkit_Feed_Between.calls g t869 1 a1 t870 t871 w0 _ ?side1 ?side2 A7.out).mono ?_); (case side1 => repeat (first | (with_reducible first | exact HI0.out | apply IsS124.alloc | apply IsS124.drewN | apply IsS124.drew | apply IsS124.set_0 | refine IsS124.far ?_ NB0_862.out _ | refine IsS124.far ?_ NB0_867.out _) | exact HI0.out)); (case side2 => repeat (first | (with_reducible first | exact HB.out | apply below_alloc | apply pw_below_drewN | apply below_drew1 | refine below_set ?_ (IsS124.ge HI0.out) | refine below_set ?_ GE862.out | refine below_set ?_ GE867.out) | exact HB.out)); rintro e w17 ⟨rfl, hi, hb, hk⟩; refine ⟨_, rfl, ?_⟩; have n0_ := Aside0.mk (KeepBut.blk hk (g' := gb862) (o := .cells #[.slice none 0 0, .int .i64 0, .int .i64 0, .int .i64 0] 87 (0, 0)) (by (with_reducible repeat (first | refine blk_drewN ?_ _ | refine blk_drew ?_ | refine blk_alloc ?_ _)); refine blk_far ?_ NB862_867.out _; (with_reducible repeat (first | refine blk_drewN ?_ _ | refine blk_drew ?_ | refine blk_alloc ?_ _)); exact BK862.out) NB862_0.out (by simp)); have n1_ := Aside0.mk (KeepBut.blk hk (g' := gb867) (o := .cells #[.slice none 0 0, .int .i64 t863, .int .i64 t868, .int .i64 t865] 87 (0, 0)) (by (with_reducible repeat (first | refine blk_drewN ?_ _ | refine blk_drew ?_ | refine blk_alloc ?_ _)); refine blk_put (cs := #[.slice none 0 0, .int .i64 t863, .int .i64 0, .int .i64 t865]) ?_ 2 _ rfl; (with_reducible repeat (first | refine blk_drewN ?_ _ | refine blk_drew ?_ | refine blk_alloc ?_ _)); exact BK867.out) NB867_0.out (by simp)); have n2_ := Aside0.mk (KeepBut.trans (by repeat (first | (with_reducible first | exact HK.out | apply KeepBut.set_ | apply keep_drewN | apply keep_drew | apply keep_alloc | refine keep_far ?_ GW862.out _ | refine keep_far ?_ GW867.out _) | exact HK.out)) hk (.inl rfl)); have n3_ := Aside0.mk (hb); have n4_ := Aside0.mk (hi); clear BK862; clear BK867; clear HK; clear HB; clear HI0; have BK862 := n0_; have BK867 := n1_; have HK := n2_; have HB := n3_; have HI0 := n4_; clear n0_ n1_ n2_ n3_ n4_; (try clear hb); (try clear hb2); (try clear hk); (try clear hi)))
  go_loopg [8] k (fun kq v8 w' => ∃ (x8_1 : Int) (x1000_1 : Int) (x868000_1 : List (S24)) (u868000 : Value), v8 = .int .i64 x8_1 ∧ Aside0 (swarfkit_HedgeOf.l0 kq a2 x8_1 x1000_1 x868000_1 t863 t868 t865 = some (r1, r2, r3, r4, r5)) ∧ Aside0 (kq ≤ k) ∧ Aside0 (Kd.R k24 24 w' w.heap.size (fun _ => True) u868000 x868000_1) ∧ Aside0 (w'.heap[gb862]? = some (.cells #[(.slice none 0 0), .int .i64 0, .int .i64 0, .int .i64 0] 87 (0, 0))) ∧ Aside0 (w'.heap[gb867]? = some (.cells #[u868000, .int .i64 t863, .int .i64 t868, .int .i64 t865] 87 (0, 0))) ∧ Aside0 (IsS124 w0 w' g x1000_1) ∧ Aside0 (KeepBut w w' g none) ∧ Aside0 (Below w0.heap.size w0 w'))
  case atStart => exact ⟨(t870), (t871), (([] : List (S24))), (.slice none 0 0), (by first | rfl | (simp; done) | (simp [*]; done)), H', ⟨Nat.le_refl _⟩, ⟨by first | exact Kd.R_nil _ _ _ _ _ | exact Kd.N_nil _ _ _ _ _ | exact Kd.V_nil _ _ _ _ _ | exact Kd.Q_nil _ _ _ _ _ | exact Kd.S_nil _ _ _ _ _⟩, ⟨by (with_reducible repeat (first | refine blk_drewN ?_ _ | refine blk_drew ?_ | refine blk_alloc ?_ _)); exact BK862.out⟩, ⟨by (with_reducible repeat (first | refine blk_drewN ?_ _ | refine blk_drew ?_ | refine blk_alloc ?_ _)); exact BK867.out⟩, ⟨by repeat (first | (with_reducible first | exact HI0.out | apply IsS124.alloc | apply IsS124.drewN | apply IsS124.drew | apply IsS124.set_0 | refine IsS124.far ?_ NB0_862.out _ | refine IsS124.far ?_ NB0_867.out _) | exact HI0.out)⟩, ⟨by repeat (first | (with_reducible first | exact HK.out | apply KeepBut.set_ | apply keep_drewN | apply keep_drew | apply keep_alloc | refine keep_far ?_ GW862.out _ | refine keep_far ?_ GW867.out _) | exact HK.out)⟩, ⟨by repeat (first | (with_reducible first | exact HB.out | apply below_alloc | apply pw_below_drewN | apply below_drew1 | refine below_set ?_ (IsS124.ge HI0.out) | refine below_set ?_ GE862.out | refine below_set ?_ GE867.out) | exact HB.out)⟩⟩
  case round =>
    clear H'
    try clear c1
    try clear c2
    try clear p2
    try clear c5
    try clear p6
    try clear c12
    try clear c13
    try clear hcz14_0
    try clear hcz14_1
    try clear hcz14_2
    try clear hcz14_3
    try clear hcz16_0
    try clear hcz16_1
    try clear hcz16_2
    try clear hcz16_3
    try clear hfz14_0
    try clear hfz14_1
    try clear hfz14_2
    try clear hfz14_3
    try clear hfz16_0
    try clear hfz16_1
    try clear hfz16_2
    try clear hfz16_3
    obtain ⟨x8_1, x1000_1, x868000_1, u868000, rfl, HA, HK1, HO_868000, BK862, BK867, HI0, HK, HB⟩ := hrel
    cases gk with
    | zero => exact absurd HA.out (by simp [swarfkit_HedgeOf.l0])
    | succ k1 =>
      have H := HA.out
      clear HA
      simp only [swarfkit_HedgeOf.l0] at H
      by_cases c18 : x8_1 > 0
      · rw [if_pos c18] at H
        have c18b0 : decide (0 < x8_1) = true := decide_eq_true c18
        clear c18
        replace H := Option.bind_eq_some_iff.mp H
        obtain ⟨⟨t872, t873⟩, A190, H⟩ := H
        replace H : ((swarfkit_Feed_Below.f t873 (wrap64 (t868 + 1))).bind fun bt874 => (if x868000_1.length < 8796093022208 then (swarfkit_HedgeOf.l0 k1 a2 (wrap64 (x8_1 - 1)) bt874.2 (x868000_1 ++ [(⟨t872, wrap64 (t872 + bt874.1)⟩ : S24)]) t863 t868 t865) else (none))) = some (r1, r2, r3, r4, r5) := H
        have A19 := Aside0.mk A190
        clear A190
        replace H := Option.bind_eq_some_iff.mp H
        obtain ⟨⟨t874, t875⟩, A200, H⟩ := H
        replace H : (if x868000_1.length < 8796093022208 then (swarfkit_HedgeOf.l0 k1 a2 (wrap64 (x8_1 - 1)) t875 (x868000_1 ++ [(⟨t872, wrap64 (t872 + t874)⟩ : S24)]) t863 t868 t865) else (none)) = some (r1, r2, r3, r4, r5) := H
        have A20 := Aside0.mk A200
        clear A200
        by_cases c21 : x868000_1.length < 8796093022208
        · rw [if_pos c21] at H
          have LMc21 := Aside0.mk c21
          clear c21
          obtain ⟨y876, hy876⟩ : ∃ y_ : List (S24), y_ = (x868000_1 ++ [(⟨t872, wrap64 (t872 + t874)⟩ : S24)]) := ⟨_, rfl⟩
          replace H : (swarfkit_HedgeOf.l0 k1 a2 (wrap64 (x8_1 - 1)) t875 y876 t863 t868 t865) = some (r1, r2, r3, r4, r5) := by first | (rw [hy876]; with_reducible exact H) | (have H2_ := (Option.bind_some _ _).symm.trans H; rw [hy876]; with_reducible exact H2_) | (have H2_ := (Option.bind_some _ _).symm.trans H; with_reducible exact H2_) | with_reducible exact H | (rw [hy876]; exact H) | exact H
          have Ny876 := Aside0.mk hy876
          clear hy876
          have H' := Aside0.mk H
          clear H
          have hnb22 := NB867_862.out
          have hnc22 := NB862_867.out
          have hnb23 := NB867_0.out
          have hnc23 := NB0_867.out
          have hcz24_0 : wr.cell? ⟨gb867, 0, none⟩ = some (u868000) := (blk_cell BK867.out 0).trans rfl
          have hcz24_1 : wr.cell? ⟨gb867, 1, none⟩ = some (.int .i64 t863) := (blk_cell BK867.out 1).trans rfl
          have hcz24_2 : wr.cell? ⟨gb867, 2, none⟩ = some (.int .i64 t868) := (blk_cell BK867.out 2).trans rfl
          have hcz24_3 : wr.cell? ⟨gb867, 3, none⟩ = some (.int .i64 t865) := (blk_cell BK867.out 3).trans rfl
          have hfz24_0 := blk_frozen BK867.out 0
          have hfz24_1 := blk_frozen BK867.out 1
          have hfz24_2 := blk_frozen BK867.out 2
          have hfz24_3 := blk_frozen BK867.out 3
          try go_wp2_with (first | ((with_reducible refine gate_callee (f := 20) rfl ?_); refine goesL_ (some 39) rfl rfl Try.func20 (by kernel_rfl) rfl #[.pointer (some ⟨g, 0, none⟩), .int .i64 (wrap64 ((wrap64 (t863 * a2)) + 1))] rfl (by (try simp only [List.map_toArray, List.map_cons, List.map_nil]); first | done | rfl | (simp only [List.length_drop, List.length_take]; rfl)) ?_; (with_reducible refine (swarfkit_Feed_Below.calls g x1000_1 (wrap64 ((wrap64 (t863 * a2)) + 1)) t872 t873 w0 _ ?side1 ?side2 A19.out).mono ?_); (case side1 => repeat (first | (with_reducible first | exact HI0.out | apply IsS124.alloc | apply IsS124.drewN | apply IsS124.drew | apply IsS124.set_0 | refine IsS124.far ?_ NB0_862.out _ | refine IsS124.far ?_ NB0_867.out _) | exact HI0.out)); (case side2 => repeat (first | (with_reducible first | exact HB.out | apply below_alloc | apply pw_below_drewN | apply below_drew1 | refine below_set ?_ (IsS124.ge HI0.out) | refine below_set ?_ GE862.out | refine below_set ?_ GE867.out) | exact HB.out)); rintro e w25 ⟨rfl, hi, hb, hk⟩; refine ⟨_, rfl, ?_⟩; have n0_ := Aside0.mk (Kd.R_mono (Kd.R_keep (IsS124.apart (show IsS124 w0 _ g x1000_1 from by repeat (first | (with_reducible first | exact HI0.out | apply IsS124.alloc | apply IsS124.drewN | apply IsS124.drew | apply IsS124.set_0 | refine IsS124.far ?_ NB0_862.out _ | refine IsS124.far ?_ NB0_867.out _) | exact HI0.out)) (by (with_reducible repeat (first | apply Kd.R_alloc | apply Kd.R_drewN | apply Kd.R_drew)); exact HO_868000.out) (by decide)) hk (fun _ h => h.2)) (fun _ h => h.1)); have n1_ := Aside0.mk (KeepBut.blk hk (g' := gb862) (o := .cells #[.slice none 0 0, .int .i64 0, .int .i64 0, .int .i64 0] 87 (0, 0)) (by (with_reducible repeat (first | refine blk_drewN ?_ _ | refine blk_drew ?_ | refine blk_alloc ?_ _)); exact BK862.out) NB862_0.out (by simp)); have n2_ := Aside0.mk (KeepBut.blk hk (g' := gb867) (o := .cells #[u868000, .int .i64 t863, .int .i64 t868, .int .i64 t865] 87 (0, 0)) (by (with_reducible repeat (first | refine blk_drewN ?_ _ | refine blk_drew ?_ | refine blk_alloc ?_ _)); exact BK867.out) NB867_0.out (by simp)); have n3_ := Aside0.mk (KeepBut.trans (by repeat (first | (with_reducible first | exact HK.out | apply KeepBut.set_ | apply keep_drewN | apply keep_drew | apply keep_alloc | refine keep_far ?_ GW862.out _ | refine keep_far ?_ GW867.out _) | exact HK.out)) hk (.inl rfl)); have n4_ := Aside0.mk (hb); have n5_ := Aside0.mk (hi); clear HO_868000; clear BK862; clear BK867; clear HK; clear HB; clear HI0; have HO_868000 := n0_; have BK862 := n1_; have BK867 := n2_; have HK := n3_; have HB := n4_; have HI0 := n5_; clear n0_ n1_ n2_ n3_ n4_ n5_; (try clear hb); (try clear hb2); (try clear hk); (try clear hi)))
          have n0_ := Aside0.mk (Kd.R_drew HO_868000.out)
          have n1_ := Aside0.mk (blk_drew BK862.out)
          have n2_ := Aside0.mk (blk_drew BK867.out)
          have n3_ := Aside0.mk (IsS124.drew HI0.out)
          have n4_ := Aside0.mk (keep_drew HK.out)
          have n5_ := Aside0.mk (below_drew1 HB.out)
          clear HO_868000
          clear BK862
          clear BK867
          clear HI0
          clear HK
          clear HB
          have HO_868000 := n0_
          have BK862 := n1_
          have BK867 := n2_
          have HI0 := n3_
          have HK := n4_
          have HB := n5_
          clear n0_ n1_ n2_ n3_ n4_ n5_
          refine start_ (n := 15) (S := fun w' => w'.cell? ⟨gb867, 0, none⟩ = some (u868000) ∧ w'.cell? ⟨gb867, 1, none⟩ = some (.int .i64 t863) ∧ w'.cell? ⟨gb867, 2, none⟩ = some (.int .i64 t868) ∧ w'.cell? ⟨gb867, 3, none⟩ = some (.int .i64 t865)) (ds := [14]) #[false, false, false, false, false, false, false, false, false, false, false, false, false, false, false] (by kernel_rfl) rfl rfl ⟨(blk_cell BK867.out 0).trans rfl, (blk_cell BK867.out 1).trans rfl, (blk_cell BK867.out 2).trans rfl, (blk_cell BK867.out 3).trans rfl⟩ (fun hHeld => ?_); refine with_tabW swarfkit_HedgeOf.tab7 swarfkit_HedgeOf.bits7 (fun HT_ HW_ => ?_)
          generalize w25.drew = w26 at HO_868000 BK862 BK867 HI0 HK HB hHeld ⊢
          refine pure_ (i := 0) (N := some 40) (v := ?_) (a' := ?_) #[true, false, false, false, false, false, false, false, false, false, false, false, false, false, false] rfl rfl (any_of HT_.out (by kernel_rfl)) (fun _ _ _ h => h) (Or.inl ⟨by rfl, ?_⟩) ?_ ?_
          rotate_left
          · intro w'
            go_simp
            with_reducible rfl
          rotate_left
          · simp only [Act.put, List.setIfInBounds_toArray, List.set_cons_zero, List.set_cons_succ, i64_w, i32_w]
            rfl
          refine pure_ (i := 2) (N := some 42) (v := ?_) (a' := ?_) #[true, false, true, false, false, false, false, false, false, false, false, false, false, false, false] rfl rfl (any_of HT_.out (by kernel_rfl)) (fun _ _ _ h => h) (Or.inl ⟨by rfl, ?_⟩) ?_ ?_
          rotate_left
          · intro w'
            go_simp
            with_reducible rfl
          rotate_left
          · simp only [Act.put, List.setIfInBounds_toArray, List.set_cons_zero, List.set_cons_succ, i64_w, i32_w]
            rfl
          refine pure_ (i := 3) (N := some 43) (v := ?_) (a' := ?_) #[true, false, true, true, false, false, false, false, false, false, false, false, false, false, false] rfl rfl (any_of HT_.out (by kernel_rfl)) (fun _ _ _ h => h) (Or.inl ⟨by rfl, ?_⟩) ?_ ?_
          rotate_left
          · intro w'
            go_simp
            with_reducible rfl
          rotate_left
          · simp only [Act.put, List.setIfInBounds_toArray, List.set_cons_zero, List.set_cons_succ, i64_w, i32_w]
            rfl
          refine pure_ (i := 4) (N := some 44) (v := ?_) (a' := ?_) #[true, false, true, true, true, false, false, false, false, false, false, false, false, false, false] rfl rfl (any_of HT_.out (by kernel_rfl)) (fun _ _ _ h => h) (Or.inl ⟨by rfl, ?_⟩) ?_ ?_
          rotate_left
          · intro w'
            go_simp
            with_reducible rfl
          rotate_left
          · simp only [Act.put, List.setIfInBounds_toArray, List.set_cons_zero, List.set_cons_succ, i64_w, i32_w]
            rfl
          refine pure_ (i := 5) (N := some 45) (v := ?_) (a' := ?_) #[true, false, true, true, true, true, false, false, false, false, false, false, false, false, false] rfl rfl (any_of HT_.out (by kernel_rfl)) (fun _ _ _ h => h) (Or.inl ⟨by rfl, ?_⟩) ?_ ?_
          rotate_left
          · intro w'
            go_simp
            with_reducible rfl
          rotate_left
          · simp only [Act.put, List.setIfInBounds_toArray, List.set_cons_zero, List.set_cons_succ, i64_w, i32_w]
            rfl
          refine take_ (i := 1) (N := some 41) (v := ?_) (a' := ?_) #[true, true, true, true, true, true, false, false, false, false, false, false, false, false, false] rfl rfl (take_ofW HT_.out HW_.out (by kernel_rfl)) (fun _ _ _ h => h) (Or.inl ⟨by rfl, ?_⟩) hHeld ?_ ?_
          rotate_left
          · rintro w' ⟨s0, s1, s2, s3⟩
            go_simp
            with_reducible rfl
          rotate_left
          · simp only [Act.put, List.setIfInBounds_toArray, List.set_cons_zero, List.set_cons_succ, i64_w, i32_w]
            rfl
          refine take_ (i := 6) (N := some 46) (v := ?_) (a' := ?_) #[true, true, true, true, true, true, true, false, false, false, false, false, false, false, false] rfl rfl (take_ofW HT_.out HW_.out (by kernel_rfl)) (fun _ _ _ h => h) (Or.inl ⟨by rfl, ?_⟩) hHeld ?_ ?_
          rotate_left
          · rintro w' ⟨s0, s1, s2, s3⟩
            go_simp
            with_reducible rfl
          rotate_left
          · simp only [Act.put, List.setIfInBounds_toArray, List.set_cons_zero, List.set_cons_succ, i64_w, i32_w]
            rfl
          refine pure_ (i := 7) (N := some 47) (v := ?_) (a' := ?_) #[true, true, true, true, true, true, true, true, false, false, false, false, false, false, false] rfl rfl (any_of HT_.out (by kernel_rfl)) (fun _ _ _ h => h) (Or.inl ⟨by rfl, ?_⟩) ?_ ?_
          rotate_left
          · intro w'
            go_simp
            with_reducible rfl
          rotate_left
          · simp only [Act.put, List.setIfInBounds_toArray, List.set_cons_zero, List.set_cons_succ, i64_w, i32_w]
            rfl
          refine one_ (i := 8) (N := some 48) #[true, true, true, true, true, true, true, true, true, false, false, false, false, false, false] rfl rfl (one_of HT_.out (by kernel_rfl)) (by decide) (fun K hK => ?_)
          refine goes_ Try.func20 (by kernel_rfl) rfl #[.pointer (some ⟨g, 0, none⟩), .int .i64 (wrap64 (t868 + 1))] (by rfl) rfl rfl (by (try simp only [List.map_toArray, List.map_cons, List.map_nil]); first | done | rfl | (simp only [List.length_drop, List.length_take]; rfl)) ?_
          with_reducible refine (swarfkit_Feed_Below.calls g t873 (wrap64 (t868 + 1)) t874 t875 w0 _ ?side1 ?side2 A20.out).mono ?_
          (case side1 => repeat (first | (with_reducible first | exact HI0.out | apply IsS124.alloc | apply IsS124.drewN | apply IsS124.drew | apply IsS124.set_0 | refine IsS124.far ?_ NB0_862.out _ | refine IsS124.far ?_ NB0_867.out _) | exact HI0.out))
          (case side2 => repeat (first | (with_reducible first | exact HB.out | apply below_alloc | apply pw_below_drewN | apply below_drew1 | refine below_set ?_ (IsS124.ge HI0.out) | refine below_set ?_ GE862.out | refine below_set ?_ GE867.out) | exact HB.out))
          rintro e w27 ⟨rfl, hi, hb, hk⟩
          refine ⟨_, rfl, ?_⟩
          have n0_ := Aside0.mk (Kd.R_mono (Kd.R_keep (IsS124.apart (show IsS124 w0 _ g t873 from by repeat (first | (with_reducible first | exact HI0.out | apply IsS124.alloc | apply IsS124.drewN | apply IsS124.drew | apply IsS124.set_0 | refine IsS124.far ?_ NB0_862.out _ | refine IsS124.far ?_ NB0_867.out _) | exact HI0.out)) (by (with_reducible repeat (first | apply Kd.R_alloc | apply Kd.R_drewN | apply Kd.R_drew)); exact HO_868000.out) (by decide)) hk (fun _ h => h.2)) (fun _ h => h.1))
          have n1_ := Aside0.mk (KeepBut.blk hk (g' := gb862) (o := .cells #[.slice none 0 0, .int .i64 0, .int .i64 0, .int .i64 0] 87 (0, 0)) (by (with_reducible repeat (first | refine blk_drewN ?_ _ | refine blk_drew ?_ | refine blk_alloc ?_ _)); exact BK862.out) NB862_0.out (by simp))
          have n2_ := Aside0.mk (KeepBut.blk hk (g' := gb867) (o := .cells #[u868000, .int .i64 t863, .int .i64 t868, .int .i64 t865] 87 (0, 0)) (by (with_reducible repeat (first | refine blk_drewN ?_ _ | refine blk_drew ?_ | refine blk_alloc ?_ _)); exact BK867.out) NB867_0.out (by simp))
          have n3_ := Aside0.mk (KeepBut.trans (by repeat (first | (with_reducible first | exact HK.out | apply KeepBut.set_ | apply keep_drewN | apply keep_drew | apply keep_alloc | refine keep_far ?_ GW862.out _ | refine keep_far ?_ GW867.out _) | exact HK.out)) hk (.inl rfl))
          have n4_ := Aside0.mk (hb)
          have n5_ := Aside0.mk (hi)
          clear HO_868000
          clear BK862
          clear BK867
          clear HK
          clear HB
          clear HI0
          have HO_868000 := n0_
          have BK862 := n1_
          have BK867 := n2_
          have HK := n3_
          have HB := n4_
          have HI0 := n5_
          clear n0_ n1_ n2_ n3_ n4_ n5_
          (try clear hb)
          (try clear hb2)
          (try clear hk)
          (try clear hi)
          refine hK.out _ _ ⟨(blk_cell BK867.out 0).trans rfl, (blk_cell BK867.out 1).trans rfl, (blk_cell BK867.out 2).trans rfl, (blk_cell BK867.out 3).trans rfl⟩ (fun hHeld => ?_)
          clear hK K
          refine norm_ (a' := ?_) ?_ ?_
          rotate_left
          · show Act.put _ (some 48) _ = _
            simp only [Act.put, List.setIfInBounds_toArray, List.set_cons_zero, List.set_cons_succ, i64_w, i32_w]
            rfl
          refine pure_ (i := 9) (N := some 49) (v := ?_) (a' := ?_) #[true, true, true, true, true, true, true, true, true, true, false, false, false, false, false] rfl rfl (any_of HT_.out (by kernel_rfl)) (fun _ _ _ h => h) (Or.inl ⟨by rfl, ?_⟩) ?_ ?_
          rotate_left
          · intro w'
            go_simp
            with_reducible rfl
          rotate_left
          · simp only [Act.put, List.setIfInBounds_toArray, List.set_cons_zero, List.set_cons_succ, i64_w, i32_w]
            rfl
          refine pure_ (i := 10) (N := some 50) (v := ?_) (a' := ?_) #[true, true, true, true, true, true, true, true, true, true, true, false, false, false, false] rfl rfl (any_of HT_.out (by kernel_rfl)) (fun _ _ _ h => h) (Or.inl ⟨by rfl, ?_⟩) ?_ ?_
          rotate_left
          · intro w'
            go_simp
            with_reducible rfl
          rotate_left
          · simp only [Act.put, List.setIfInBounds_toArray, List.set_cons_zero, List.set_cons_succ, i64_w, i32_w]
            rfl
          refine one_ (i := 11) (N := some 51) #[true, true, true, true, true, true, true, true, true, true, true, true, false, false, false] rfl rfl (one_of HT_.out (by kernel_rfl)) (by decide) (fun K hK => ?_)
          refine value_ (w1 := ?_) (v := ?_) (by rfl) rfl ?_ ?_
          rotate_left 2
          · go_simp
            constructor
            · rfl
            · rfl
          refine hK.out _ _ ⟨(blk_cell (blk_alloc BK867.out _) 0).trans rfl, (blk_cell (blk_alloc BK867.out _) 1).trans rfl, (blk_cell (blk_alloc BK867.out _) 2).trans rfl, (blk_cell (blk_alloc BK867.out _) 3).trans rfl⟩ (fun hHeld => ?_)
          clear hK K
          refine norm_ (a' := ?_) ?_ ?_
          rotate_left
          · show Act.put _ (some 51) _ = _
            simp only [Act.put, List.setIfInBounds_toArray, List.set_cons_zero, List.set_cons_succ, i64_w, i32_w]
            rfl
          refine one_ (i := 12) (N := some 52) #[true, true, true, true, true, true, true, true, true, true, true, true, true, false, false] rfl rfl (one_of HT_.out (by kernel_rfl)) (by decide) (fun K hK => ?_)
          refine Kd.R_append_step k24 w.heap.size (by rfl) (.tmp 41) (.tmp 51) 37 24 (.agg #[(.int .i64 0), (.int .i64 0)]) 16 rfl Try.underlying37 info24 rfl (by decide) (by omega) u868000 x868000_1 (⟨t872, wrap64 (t872 + t874)⟩ : S24) [.int .i64 t872, .int .i64 (wrap64 (t872 + t874))] (fun _ => True) (fun _ => False) rfl rfl ?aP (fun _ hk => hk.elim) ?aF ?aO (Below.refl _ _) ?aS ?aL ?_
          (case aP => exact k24_mkM _ _ _ (⟨t872, wrap64 (t872 + t874)⟩ : S24))
          (case aF => exact (fun _ _ => trivial))
          (case aO => exact (by (with_reducible repeat (first | apply Kd.R_alloc | apply Kd.R_drewN | apply Kd.R_drew)); exact HO_868000.out))
          (case aS => exact (keep_size (w := w) (g := g) (row := none) (by repeat (first | (with_reducible first | exact HK.out | apply KeepBut.set_ | apply keep_drewN | apply keep_drew | apply keep_alloc | refine keep_far ?_ GW862.out _ | refine keep_far ?_ GW867.out _) | exact HK.out))))
          (case aL => have := LMc21.out; omega)
          intro v877 w28 ho hb hg hat
          rw [← Ny876.out] at ho
          have n0_ := Aside0.mk (blk_grown (g := gb862) (o := .cells #[.slice none 0 0, .int .i64 0, .int .i64 0, .int .i64 0] 87 (0, 0)) (by (with_reducible repeat (first | refine blk_drewN ?_ _ | refine blk_drew ?_ | refine blk_alloc ?_ _)); exact BK862.out) hg (Kd.R_ne HO_868000.out BK862.out (by decide)))
          have n1_ := Aside0.mk (blk_grown (g := gb867) (o := .cells #[u868000, .int .i64 t863, .int .i64 t868, .int .i64 t865] 87 (0, 0)) (by (with_reducible repeat (first | refine blk_drewN ?_ _ | refine blk_drew ?_ | refine blk_alloc ?_ _)); exact BK867.out) hg (Kd.R_ne HO_868000.out BK867.out (by decide)))
          have n2_ := Aside0.mk (IsS124.grown (by repeat (first | (with_reducible first | exact HI0.out | apply IsS124.alloc | apply IsS124.drewN | apply IsS124.drew | apply IsS124.set_0 | refine IsS124.far ?_ NB0_862.out _ | refine IsS124.far ?_ NB0_867.out _) | exact HI0.out)) hg (IsS124.own_ne HI0.out HO_868000.out (by decide)))
          have n3_ := Aside0.mk (below_weaken (by repeat (first | (with_reducible first | exact HB.out | apply below_alloc | apply pw_below_drewN | apply below_drew1 | refine below_set ?_ (IsS124.ge HI0.out) | refine below_set ?_ GE862.out | refine below_set ?_ GE867.out) | exact HB.out)) HL.out hb)
          have n4_ := Aside0.mk (KeepBut.trans (by repeat (first | (with_reducible first | exact HK.out | apply KeepBut.set_ | apply keep_drewN | apply keep_drew | apply keep_alloc | refine keep_far ?_ GW862.out _ | refine keep_far ?_ GW867.out _) | exact HK.out)) (KeepBut.of_grown hg g) (Kd.R_base2 HO_868000.out))
          have n5_ := Aside0.mk (ho)
          clear BK862
          clear BK867
          clear HI0
          clear HB
          clear HK
          clear HO_868000
          have BK862 := n0_
          have BK867 := n1_
          have HI0 := n2_
          have HB := n3_
          have HK := n4_
          have HO878 := n5_
          clear n0_ n1_ n2_ n3_ n4_ n5_
          clear ho hb hg hat
          obtain ⟨Ao29, co29, eo29⟩ := Kd.R_slice HO878.out
          (first | subst eo29 | (injection eo29 with f1_ f2_ f3_; have f4_ := f1_.symm; have f5_ := f3_.symm; clear f1_ f2_ f3_; subst f4_; subst f5_))
          refine hK.out _ _ ⟨(blk_cell BK867.out 0).trans rfl, (blk_cell BK867.out 1).trans rfl, (blk_cell BK867.out 2).trans rfl, (blk_cell BK867.out 3).trans rfl⟩ (fun hHeld => ?_)
          clear hK K
          refine norm_ (a' := ?_) ?_ ?_
          rotate_left
          · show Act.put _ (some 52) _ = _
            simp only [Act.put, List.setIfInBounds_toArray, List.set_cons_zero, List.set_cons_succ, i64_w, i32_w]
            rfl
          refine pure_ (i := 13) (N := some 53) (v := ?_) (a' := ?_) #[true, true, true, true, true, true, true, true, true, true, true, true, true, true, false] rfl rfl (any_of HT_.out (by kernel_rfl)) (fun _ _ _ h => h) (Or.inl ⟨by rfl, ?_⟩) ?_ ?_
          rotate_left
          · intro w'
            go_simp
            with_reducible rfl
          rotate_left
          · simp only [Act.put, List.setIfInBounds_toArray, List.set_cons_zero, List.set_cons_succ, i64_w, i32_w]
            rfl
          refine last_ (i := 14) (N := none) #[true, true, true, true, true, true, true, true, true, true, true, true, true, true, true] rfl rfl (one_of HT_.out (by kernel_rfl)) (by decide) (fun K hK => ?_)
          have hs30 : w28.cell? ⟨gb867, 0, none⟩ = some (u868000) := (blk_cell BK867.out 0).trans rfl
          have hfs30 := blk_frozen BK867.out 0
          have hns30_0 := NB862_867.out
          have hms30_0 := NB867_862.out
          refine skip_ (w1 := ?_) (by rfl) rfl ?_ ?_
          rotate_left
          · go_simp
            rfl
          refine hK.out _ _ ?_
          clear hK K
          refine done_ (done_of HT_.out (by kernel_rfl)) ?_
          try go_wp2
          go_roundg k1
          case measure => have := HK1.out; omega
          case rel => exact ⟨(wrap64 (x8_1 - 1)), (t875), (y876), (.slice Ao29 y876.length co29), (by first | rfl | (simp; done) | (simp [*]; done)), H', ⟨by have := HK1.out; omega⟩, ⟨by (with_reducible repeat (first | apply Kd.R_alloc | apply Kd.R_drewN | apply Kd.R_drew)); exact Kd.R_mono (Kd.R_far (p := ⟨gb867, 0, none⟩) (Kd.R_types HO878.out BK867.out (by decide)) (fun _ hk => hk.2) (.slice Ao29 y876.length co29)) (fun _ hk => trivial)⟩, ⟨by (with_reducible repeat (first | refine blk_drewN ?_ _ | refine blk_drew ?_ | refine blk_alloc ?_ _)); refine blk_far ?_ NB862_867.out _; (with_reducible repeat (first | refine blk_drewN ?_ _ | refine blk_drew ?_ | refine blk_alloc ?_ _)); exact BK862.out⟩, ⟨by (with_reducible repeat (first | refine blk_drewN ?_ _ | refine blk_drew ?_ | refine blk_alloc ?_ _)); refine blk_put (cs := #[u868000, .int .i64 t863, .int .i64 t868, .int .i64 t865]) ?_ 0 _ rfl; (with_reducible repeat (first | refine blk_drewN ?_ _ | refine blk_drew ?_ | refine blk_alloc ?_ _)); exact BK867.out⟩, ⟨by repeat (first | (with_reducible first | exact HI0.out | apply IsS124.alloc | apply IsS124.drewN | apply IsS124.drew | apply IsS124.set_0 | refine IsS124.far ?_ NB0_862.out _ | refine IsS124.far ?_ NB0_867.out _) | exact HI0.out)⟩, ⟨by repeat (first | (with_reducible first | exact HK.out | apply KeepBut.set_ | apply keep_drewN | apply keep_drew | apply keep_alloc | refine keep_far ?_ GW862.out _ | refine keep_far ?_ GW867.out _) | exact HK.out)⟩, ⟨by repeat (first | (with_reducible first | exact HB.out | apply below_alloc | apply pw_below_drewN | apply below_drew1 | refine below_set ?_ (IsS124.ge HI0.out) | refine below_set ?_ GE862.out | refine below_set ?_ GE867.out) | exact HB.out)⟩⟩
        · rw [if_neg c21] at H
          exact absurd H (by simp)
      · rw [if_neg c18] at H
        have c18b0 : decide (0 < x8_1) = false := decide_eq_false c18
        clear c18
        simp only [Option.some.injEq, Prod.mk.injEq] at H
        obtain ⟨rfl, rfl, rfl, rfl, rfl⟩ := H
        have hnb31 := NB867_862.out
        have hnc31 := NB862_867.out
        have hnb32 := NB867_0.out
        have hnc32 := NB0_867.out
        have hcz33_0 : wr.cell? ⟨gb867, 0, none⟩ = some (u868000) := (blk_cell BK867.out 0).trans rfl
        have hcz33_1 : wr.cell? ⟨gb867, 1, none⟩ = some (.int .i64 t863) := (blk_cell BK867.out 1).trans rfl
        have hcz33_2 : wr.cell? ⟨gb867, 2, none⟩ = some (.int .i64 t868) := (blk_cell BK867.out 2).trans rfl
        have hcz33_3 : wr.cell? ⟨gb867, 3, none⟩ = some (.int .i64 t865) := (blk_cell BK867.out 3).trans rfl
        have hfz33_0 := blk_frozen BK867.out 0
        have hfz33_1 := blk_frozen BK867.out 1
        have hfz33_2 := blk_frozen BK867.out 2
        have hfz33_3 := blk_frozen BK867.out 3
        obtain ⟨Ao34, co34, eo34⟩ := Kd.R_slice HO_868000.out
        subst eo34
        have hnb35 := NB862_0.out
        have hnc35 := NB0_862.out
        have hcz36_0 : wr.cell? ⟨gb862, 0, none⟩ = some (.slice none 0 0) := (blk_cell BK862.out 0).trans rfl
        have hcz36_1 : wr.cell? ⟨gb862, 1, none⟩ = some (.int .i64 0) := (blk_cell BK862.out 1).trans rfl
        have hcz36_2 : wr.cell? ⟨gb862, 2, none⟩ = some (.int .i64 0) := (blk_cell BK862.out 2).trans rfl
        have hcz36_3 : wr.cell? ⟨gb862, 3, none⟩ = some (.int .i64 0) := (blk_cell BK862.out 3).trans rfl
        have hfz36_0 := blk_frozen BK862.out 0
        have hfz36_1 := blk_frozen BK862.out 1
        have hfz36_2 := blk_frozen BK862.out 2
        have hfz36_3 := blk_frozen BK862.out 3
        go_wp2
        refine bodyPost_ret (results_cell_row rfl _ _ gb862 87 #[.slice Ao34 x868000_1.length co34, .int .i64 t863, .int .i64 t868, .int .i64 t865] (0, 0) _ rfl (by (with_reducible repeat (first | refine blk_drewN ?_ _ | refine blk_drew ?_ | refine blk_alloc ?_ _)); refine blk_put (cs := #[.slice Ao34 x868000_1.length co34, .int .i64 t863, .int .i64 t868, .int .i64 0]) ?_ 3 _ rfl; (with_reducible repeat (first | refine blk_drewN ?_ _ | refine blk_drew ?_ | refine blk_alloc ?_ _)); refine blk_put (cs := #[.slice Ao34 x868000_1.length co34, .int .i64 t863, .int .i64 0, .int .i64 0]) ?_ 2 _ rfl; (with_reducible repeat (first | refine blk_drewN ?_ _ | refine blk_drew ?_ | refine blk_alloc ?_ _)); refine blk_put (cs := #[.slice Ao34 x868000_1.length co34, .int .i64 0, .int .i64 0, .int .i64 0]) ?_ 1 _ rfl; (with_reducible repeat (first | refine blk_drewN ?_ _ | refine blk_drew ?_ | refine blk_alloc ?_ _)); refine blk_put (cs := #[.slice none 0 0, .int .i64 0, .int .i64 0, .int .i64 0]) ?_ 0 _ rfl; (with_reducible repeat (first | refine blk_drewN ?_ _ | refine blk_drew ?_ | refine blk_alloc ?_ _)); exact BK862.out) Try.underlying87 rfl (by kernel_rfl)) rfl ?_
        exact ⟨_, by first | rfl | (simp [errW_none, errW_some] <;> rfl) | (simp [*, errW_none, errW_some] <;> rfl), by (with_reducible repeat (first | apply Kd.R_alloc | apply Kd.R_drewN | apply Kd.R_drew)); exact Kd.R_mono (Kd.R_far (p := ⟨gb862, 3, none⟩) (Kd.R_far (p := ⟨gb862, 2, none⟩) (Kd.R_far (p := ⟨gb862, 1, none⟩) (Kd.R_far (p := ⟨gb862, 0, none⟩) (Kd.R_types HO_868000.out BK862.out (by decide)) (fun _ hk => hk.2) (.slice Ao34 x868000_1.length co34)) (fun _ hk => hk.2) (.int .i64 t863)) (fun _ hk => hk.2) (.int .i64 t868)) (fun _ hk => hk.2) (.int .i64 t865)) (fun _ hk => trivial), by repeat (first | (with_reducible first | exact HI0.out | apply IsS124.alloc | apply IsS124.drewN | apply IsS124.drew | apply IsS124.set_0 | refine IsS124.far ?_ NB0_862.out _ | refine IsS124.far ?_ NB0_867.out _) | exact HI0.out), by repeat (first | (with_reducible first | exact HB.out | apply below_alloc | apply pw_below_drewN | apply below_drew1 | refine below_set ?_ (IsS124.ge HI0.out) | refine below_set ?_ GE862.out | refine below_set ?_ GE867.out) | exact HB.out), by repeat (first | (with_reducible first | exact HK.out | apply KeepBut.set_ | apply keep_drewN | apply keep_drew | apply keep_alloc | refine keep_far ?_ GW862.out _ | refine keep_far ?_ GW867.out _) | exact HK.out)⟩
def swarfkit_Ranges.f (l0 : List (S24)) : Option ((List (S24))) := (some (([] : List (S24)) : List (S24))).bind fun y879 => (if y879.length + l0.length < 8796093022208 then (some (y879 ++ l0)) else (none))
set_option maxHeartbeats 8000000 in
set_option maxRecDepth 100000 in
theorem swarfkit_Ranges.calls (A0 : Option Addr) (c0 : Nat) (l0 : List (S24)) (r : List (S24)) (w : World) (hr0 : Kd.C k24 w A0 l0.length l0) (hc0 : l0.length ≤ c0) (h : swarfkit_Ranges.f l0 = some r) :
    Calls Try.prog 102 #[.slice A0 l0.length c0] w fun e w' => ∃ v0_ : Value, e = .returned (v0_) ∧ Kd.R k24 24 w' w.heap.size (fun _ => True) v0_ r ∧ Below w.heap.size w w' := by
  have HR0 := Aside0.mk hr0
  have HC0 := Aside0.mk hc0
  clear hr0 hc0
  have HB := Aside0.mk (Below.refl w.heap.size w)
  have H : ((some (([] : List (S24)) : List (S24))).bind fun y879 => (if y879.length + l0.length < 8796093022208 then (some (y879 ++ l0)) else (none))) = some r := h
  clear h
  obtain ⟨y879, hy879⟩ : ∃ y_ : List (S24), y_ = (([] : List (S24))) := ⟨_, rfl⟩
  replace H : (if y879.length + l0.length < 8796093022208 then (some (y879 ++ l0)) else (none)) = some r := by first | (rw [hy879]; with_reducible exact H) | (have H2_ := (Option.bind_some _ _).symm.trans H; rw [hy879]; with_reducible exact H2_) | (have H2_ := (Option.bind_some _ _).symm.trans H; with_reducible exact H2_) | with_reducible exact H | (rw [hy879]; exact H) | exact H
  have Ny879 := Aside0.mk hy879
  clear hy879
  by_cases c2 : y879.length + l0.length < 8796093022208
  · rw [if_pos c2] at H
    have LMc2 := Aside0.mk c2
    clear c2
    obtain ⟨y882, hy882⟩ : ∃ y_ : List (S24), y_ = (y879 ++ l0) := ⟨_, rfl⟩
    replace H : (some y882) = some r := by first | (rw [hy882]; with_reducible exact H) | (have H2_ := (Option.bind_some _ _).symm.trans H; rw [hy882]; with_reducible exact H2_) | (have H2_ := (Option.bind_some _ _).symm.trans H; with_reducible exact H2_) | with_reducible exact H | (rw [hy882]; exact H) | exact H
    have Ny882 := Aside0.mk hy882
    clear hy882
    obtain rfl := Option.some.inj H
    go_enter Try.func102, Try.ntmps102
    go_wp2_with (first | ((with_reducible refine gate_dst (N := 3) rfl ?_); refine Kd.R_lit k24 _ 24 ?hg (N := 3) ?hd (xs := ([] : List (S24))) (inner := []) (ok := fun _ => True) (okp := fun _ => True) ?hr ?hp (fun _ hk => hk) trivial (Below.refl _ _) (Nat.le_refl _) (by simp) ?_; (case hd => rfl); (case hg => rfl); (case hr => first | (go_simp; done) | (go_simp; rfl)); (case hp => exact (Reps.none _ _)); intro v880 w3 ho4 hb hg_ hnew_; clear hg_ hnew_; (first | rw [← Ny879.out] at ho4 | (simp only [Int.reduceToNat] at ho4; rw [← Ny879.out] at ho4)); have n0_ := Aside0.mk (Kd.R_lower ho4 (below_size (by repeat (first | (with_reducible first | exact HB.out | apply below_alloc | apply pw_below_drewN | apply below_drew1) | exact HB.out)))); have n1_ := Aside0.mk (below_step (by repeat (first | (with_reducible first | exact HB.out | apply below_alloc | apply pw_below_drewN | apply below_drew1) | exact HB.out)) hb); clear HB; have HO881 := n0_; have HB := n1_; clear n0_ n1_; clear hb ho4) | ((with_reducible refine gate_builtin (b := .append) (xs := #[.tmp 3, .tmp 4]) rfl ?_); at_builtin; refine Kd.R_append_rows k24 (w0 := w) w.heap.size rfl (.tmp 3) (.tmp 4) 37 24 (.agg #[(.int .i64 0), (.int .i64 0)]) 16 rfl Try.underlying37 info24 rfl (by decide) (by omega) v880 y879 l0 _ _ _ (fun _ => True) (fun _ => False) rfl rfl ?aO ?aR (fun _ _ h => h) (fun _ h => h.elim) ?aF ?aB ?aS ?aL ?_; (case aR => repeat (first | exact (Kd.C_below HR0.out HB.out) | (with_reducible refine Kd.C_alloc ?_ _) | (with_reducible refine Kd.C_drewN ?_ _) | (with_reducible refine Kd.C_drew ?_))); (case aB => exact (by repeat (first | (with_reducible first | exact HB.out | apply below_alloc | apply pw_below_drewN | apply below_drew1) | exact HB.out))); (case aF => exact (fun _ _ => trivial)); (case aO => exact (by (with_reducible repeat (first | apply Kd.R_alloc | apply Kd.R_drewN | apply Kd.R_drew)); exact HO881.out)); (case aS => exact (below_size (by repeat (first | (with_reducible first | exact HB.out | apply below_alloc | apply pw_below_drewN | apply below_drew1) | exact HB.out)))); (case aL => have := LMc2.out; omega); intro v883 w5 ho hb hg hat; rw [← Ny882.out] at ho; have n0_ := Aside0.mk (hb); have n1_ := Aside0.mk (ho); clear HB; clear HO881; have HB := n0_; have HO884 := n1_; clear n0_ n1_; clear ho hb hg hat))
    go_ret
    exact ⟨_, by first | rfl | (simp [errW_none, errW_some] <;> rfl) | (simp [*, errW_none, errW_some] <;> rfl), by (with_reducible repeat (first | apply Kd.R_alloc | apply Kd.R_drewN | apply Kd.R_drew)); exact HO884.out, by repeat (first | (with_reducible first | exact HB.out | apply below_alloc | apply pw_below_drewN | apply below_drew1) | exact HB.out)⟩
  · rw [if_neg c2] at H
    exact absurd H (by simp)
def swarfkit_CopyHedge.f (l0_0 : List (S24)) (a0_1 : Int) (a0_2 : Int) (a0_3 : Int) : Option ((List (S24)) × Int × Int × Int) := (swarfkit_Ranges.f l0_0).bind fun t887 => (some (t887, a0_1, a0_2, a0_3))
set_option maxHeartbeats 8000000 in
set_option maxRecDepth 100000 in
theorem swarfkit_CopyHedge.calls (A0_0 : Option Addr) (c0_0 : Nat) (l0_0 : List (S24)) (a0_1 : Int) (a0_2 : Int) (a0_3 : Int) (r1 : List (S24)) (r2 : Int) (r3 : Int) (r4 : Int) (w : World) (hr0_0 : Kd.C k24 w A0_0 l0_0.length l0_0) (hc0_0 : l0_0.length ≤ c0_0) (h : swarfkit_CopyHedge.f l0_0 a0_1 a0_2 a0_3 = some (r1, r2, r3, r4)) :
    Calls Try.prog 55 #[.agg #[.slice A0_0 l0_0.length c0_0, .int .i64 a0_1, .int .i64 a0_2, .int .i64 a0_3]] w fun e w' => ∃ v0_ : Value, e = .returned (.agg #[v0_, .int .i64 r2, .int .i64 r3, .int .i64 r4]) ∧ Kd.R k24 24 w' w.heap.size (fun _ => True) v0_ r1 ∧ Below w.heap.size w w' := by
  have hu87 := Try.underlying87
  have HR0_0 := Aside0.mk hr0_0
  have HC0_0 := Aside0.mk hc0_0
  clear hr0_0 hc0_0
  have HB := Aside0.mk (Below.refl w.heap.size w)
  have H : ((swarfkit_Ranges.f l0_0).bind fun t887 => (some (t887, a0_1, a0_2, a0_3))) = some (r1, r2, r3, r4) := h
  clear h
  replace H := Option.bind_eq_some_iff.mp H
  obtain ⟨t887, A20, H⟩ := H
  replace H : (some (t887, a0_1, a0_2, a0_3)) = some (r1, r2, r3, r4) := H
  have A2 := Aside0.mk A20
  clear A20
  simp only [Option.some.injEq, Prod.mk.injEq] at H
  obtain ⟨rfl, rfl, rfl, rfl⟩ := H
  go_enter Try.func55, Try.ntmps55
  go_wp2_with (first | ((with_reducible refine gate_dst (N := 1) rfl ?_); refine box_event ?hg (N := 1) ?hd (cs := #[.slice A0_0 l0_0.length c0_0, .int .i64 a0_1, .int .i64 a0_2, .int .i64 a0_3]) (t := 87) ?hr ?_; (case hd => rfl); (case hg => rfl); (case hr => first | (go_simp; done) | (go_simp; rfl)); intro gb885 hg w3 hbox hb; have n0_ := Aside0.mk (below_step (by repeat (first | (with_reducible first | exact HB.out | apply below_alloc | apply pw_below_drewN | apply below_drew1) | exact HB.out)) hb); have n1_ := Aside0.mk (hbox); have n2_ := Aside0.mk ((by rw [hg]; exact (below_size (by repeat (first | (with_reducible first | exact HB.out | apply below_alloc | apply pw_below_drewN | apply below_drew1) | exact HB.out))) : w.heap.size ≤ gb885)); have n3_ := Aside0.mk ((by rw [hg]; exact (below_size (by repeat (first | (with_reducible first | exact HB.out | apply below_alloc | apply pw_below_drewN | apply below_drew1) | exact HB.out))) : w.heap.size ≤ gb885)); clear HB; have HB := n0_; have BK885 := n1_; have GW885 := n2_; have GE885 := n3_; clear n0_ n1_ n2_ n3_; clear hb hbox hg) | ((with_reducible refine gate_dst (N := 2) rfl ?_); refine box_event ?hg (N := 2) ?hd (cs := #[.slice none 0 0, .int .i64 0, .int .i64 0, .int .i64 0]) (t := 87) ?hr ?_; (case hd => rfl); (case hg => rfl); (case hr => first | (go_simp; done) | (go_simp; rfl)); intro gb886 hg w4 hbox hb; have n0_ := Aside0.mk (blk_below (g := gb885) (o := .cells #[.slice A0_0 l0_0.length c0_0, .int .i64 a0_1, .int .i64 a0_2, .int .i64 a0_3] 87 (0, 0)) (by (with_reducible repeat (first | refine blk_drewN ?_ _ | refine blk_drew ?_ | refine blk_alloc ?_ _)); exact BK885.out) hb); have n1_ := Aside0.mk (below_step (by repeat (first | (with_reducible first | exact HB.out | apply below_alloc | apply pw_below_drewN | apply below_drew1 | refine below_set ?_ GE885.out) | exact HB.out)) hb); have n2_ := Aside0.mk (hbox); have n3_ := Aside0.mk ((by rw [hg]; exact (below_size (by repeat (first | (with_reducible first | exact HB.out | apply below_alloc | apply pw_below_drewN | apply below_drew1 | refine below_set ?_ GE885.out) | exact HB.out))) : w.heap.size ≤ gb886)); have n4_ := Aside0.mk ((by rw [hg]; exact (below_size (by repeat (first | (with_reducible first | exact HB.out | apply below_alloc | apply pw_below_drewN | apply below_drew1 | refine below_set ?_ GE885.out) | exact HB.out))) : w.heap.size ≤ gb886)); have n5_ := Aside0.mk ((by rw [hg]; exact Nat.ne_of_lt (blk_lt (g := gb885) (o := .cells #[.slice A0_0 l0_0.length c0_0, .int .i64 a0_1, .int .i64 a0_2, .int .i64 a0_3] 87 (0, 0)) (by (with_reducible repeat (first | refine blk_drewN ?_ _ | refine blk_drew ?_ | refine blk_alloc ?_ _)); exact BK885.out)) : gb885 ≠ gb886)); have n6_ := Aside0.mk ((by rw [hg]; exact Nat.ne_of_gt (blk_lt (g := gb885) (o := .cells #[.slice A0_0 l0_0.length c0_0, .int .i64 a0_1, .int .i64 a0_2, .int .i64 a0_3] 87 (0, 0)) (by (with_reducible repeat (first | refine blk_drewN ?_ _ | refine blk_drew ?_ | refine blk_alloc ?_ _)); exact BK885.out)) : gb886 ≠ gb885)); clear BK885; clear HB; have BK885 := n0_; have HB := n1_; have BK886 := n2_; have GW886 := n3_; have GE886 := n4_; have NB885_886 := n5_; have NB886_885 := n6_; clear n0_ n1_ n2_ n3_ n4_ n5_ n6_; clear hb hbox hg; have hnb5 := NB885_886.out; have hnc5 := NB886_885.out; have hcz6_0 : w4.cell? ⟨gb885, 0, none⟩ = some (.slice A0_0 l0_0.length c0_0) := (blk_cell BK885.out 0).trans rfl; have hcz6_1 : w4.cell? ⟨gb885, 1, none⟩ = some (.int .i64 a0_1) := (blk_cell BK885.out 1).trans rfl; have hcz6_2 : w4.cell? ⟨gb885, 2, none⟩ = some (.int .i64 a0_2) := (blk_cell BK885.out 2).trans rfl; have hcz6_3 : w4.cell? ⟨gb885, 3, none⟩ = some (.int .i64 a0_3) := (blk_cell BK885.out 3).trans rfl; have hfz6_0 := blk_frozen BK885.out 0; have hfz6_1 := blk_frozen BK885.out 1; have hfz6_2 := blk_frozen BK885.out 2; have hfz6_3 := blk_frozen BK885.out 3) | ((with_reducible refine gate_callee (f := 102) rfl ?_); refine goesL_ (some 5) rfl rfl Try.func102 (by kernel_rfl) rfl #[.slice A0_0 l0_0.length c0_0] rfl (by (try simp only [List.map_toArray, List.map_cons, List.map_nil]); first | done | rfl | (simp only [List.length_drop, List.length_take]; rfl)) ?_; (with_reducible refine (swarfkit_Ranges.calls _ _ l0_0 t887 _ ?side1 ?side2 A2.out).mono ?_); (case side1 => repeat (first | exact (Kd.C_below HR0_0.out HB.out) | (with_reducible refine Kd.C_alloc ?_ _) | (with_reducible refine Kd.C_drewN ?_ _) | (with_reducible refine Kd.C_drew ?_))); (case side2 => exact HC0_0.out); rintro e w7 ⟨v888, rfl, ho0, hb⟩; refine ⟨_, rfl, ?_⟩; have n0_ := Aside0.mk (Kd.R_lower ho0 (below_size (by repeat (first | (with_reducible first | exact HB.out | apply below_alloc | apply pw_below_drewN | apply below_drew1 | refine below_set ?_ GE885.out | refine below_set ?_ GE886.out) | exact HB.out)))); have n1_ := Aside0.mk (blk_below (g := gb885) (o := .cells #[.slice A0_0 l0_0.length c0_0, .int .i64 a0_1, .int .i64 a0_2, .int .i64 a0_3] 87 (0, 0)) (by (with_reducible repeat (first | refine blk_drewN ?_ _ | refine blk_drew ?_ | refine blk_alloc ?_ _)); exact BK885.out) hb); have n2_ := Aside0.mk (blk_below (g := gb886) (o := .cells #[.slice none 0 0, .int .i64 0, .int .i64 0, .int .i64 0] 87 (0, 0)) (by (with_reducible repeat (first | refine blk_drewN ?_ _ | refine blk_drew ?_ | refine blk_alloc ?_ _)); exact BK886.out) hb); have n3_ := Aside0.mk (below_step (by repeat (first | (with_reducible first | exact HB.out | apply below_alloc | apply pw_below_drewN | apply below_drew1 | refine below_set ?_ GE885.out | refine below_set ?_ GE886.out) | exact HB.out)) hb); clear BK885; clear BK886; clear HB; have HO889 := n0_; have BK885 := n1_; have BK886 := n2_; have HB := n3_; clear n0_ n1_ n2_ n3_; (try clear hb); (try clear hb2); (try clear hk); (try clear hi); (try clear ho0); obtain ⟨Ao8, co8, eo8⟩ := Kd.R_slice HO889.out; subst eo8; have hcz9_0 : w7.cell? ⟨gb885, 0, none⟩ = some (.slice A0_0 l0_0.length c0_0) := (blk_cell BK885.out 0).trans rfl; have hcz9_1 : w7.cell? ⟨gb885, 1, none⟩ = some (.int .i64 a0_1) := (blk_cell BK885.out 1).trans rfl; have hcz9_2 : w7.cell? ⟨gb885, 2, none⟩ = some (.int .i64 a0_2) := (blk_cell BK885.out 2).trans rfl; have hcz9_3 : w7.cell? ⟨gb885, 3, none⟩ = some (.int .i64 a0_3) := (blk_cell BK885.out 3).trans rfl; have hfz9_0 := blk_frozen BK885.out 0; have hfz9_1 := blk_frozen BK885.out 1; have hfz9_2 := blk_frozen BK885.out 2; have hfz9_3 := blk_frozen BK885.out 3; have hcz10_0 : w7.cell? ⟨gb886, 0, none⟩ = some (.slice none 0 0) := (blk_cell BK886.out 0).trans rfl; have hcz10_1 : w7.cell? ⟨gb886, 1, none⟩ = some (.int .i64 0) := (blk_cell BK886.out 1).trans rfl; have hcz10_2 : w7.cell? ⟨gb886, 2, none⟩ = some (.int .i64 0) := (blk_cell BK886.out 2).trans rfl; have hcz10_3 : w7.cell? ⟨gb886, 3, none⟩ = some (.int .i64 0) := (blk_cell BK886.out 3).trans rfl; have hfz10_0 := blk_frozen BK886.out 0; have hfz10_1 := blk_frozen BK886.out 1; have hfz10_2 := blk_frozen BK886.out 2; have hfz10_3 := blk_frozen BK886.out 3))
  refine bodyPost_ret (results_cell_row rfl _ _ gb886 87 #[.slice Ao8 t887.length co8, .int .i64 a0_1, .int .i64 a0_2, .int .i64 a0_3] (0, 0) _ rfl (by (with_reducible repeat (first | refine blk_drewN ?_ _ | refine blk_drew ?_ | refine blk_alloc ?_ _)); refine blk_put (cs := #[.slice Ao8 t887.length co8, .int .i64 a0_1, .int .i64 a0_2, .int .i64 0]) ?_ 3 _ rfl; (with_reducible repeat (first | refine blk_drewN ?_ _ | refine blk_drew ?_ | refine blk_alloc ?_ _)); refine blk_put (cs := #[.slice Ao8 t887.length co8, .int .i64 a0_1, .int .i64 0, .int .i64 0]) ?_ 2 _ rfl; (with_reducible repeat (first | refine blk_drewN ?_ _ | refine blk_drew ?_ | refine blk_alloc ?_ _)); refine blk_put (cs := #[.slice Ao8 t887.length co8, .int .i64 0, .int .i64 0, .int .i64 0]) ?_ 1 _ rfl; (with_reducible repeat (first | refine blk_drewN ?_ _ | refine blk_drew ?_ | refine blk_alloc ?_ _)); refine blk_put (cs := #[.slice none 0 0, .int .i64 0, .int .i64 0, .int .i64 0]) ?_ 0 _ rfl; (with_reducible repeat (first | refine blk_drewN ?_ _ | refine blk_drew ?_ | refine blk_alloc ?_ _)); refine blk_far ?_ NB886_885.out _; (with_reducible repeat (first | refine blk_drewN ?_ _ | refine blk_drew ?_ | refine blk_alloc ?_ _)); exact BK886.out) Try.underlying87 rfl (by kernel_rfl)) rfl ?_
  exact ⟨_, by first | rfl | (simp [errW_none, errW_some] <;> rfl) | (simp [*, errW_none, errW_some] <;> rfl), by (with_reducible repeat (first | apply Kd.R_alloc | apply Kd.R_drewN | apply Kd.R_drew)); exact Kd.R_mono (Kd.R_far (p := ⟨gb886, 3, none⟩) (Kd.R_far (p := ⟨gb886, 2, none⟩) (Kd.R_far (p := ⟨gb886, 1, none⟩) (Kd.R_far (p := ⟨gb886, 0, none⟩) (Kd.R_far (p := ⟨gb885, 0, none⟩) (Kd.R_types (Kd.R_types HO889.out BK885.out (by decide)) BK886.out (by decide)) (fun _ hk => hk.1.2) (.slice Ao8 t887.length co8)) (fun _ hk => hk.2) (.slice Ao8 t887.length co8)) (fun _ hk => hk.2) (.int .i64 a0_1)) (fun _ hk => hk.2) (.int .i64 a0_2)) (fun _ hk => hk.2) (.int .i64 a0_3)) (fun _ hk => trivial), by repeat (first | (with_reducible first | exact HB.out | apply below_alloc | apply pw_below_drewN | apply below_drew1 | refine below_set ?_ GE885.out | refine below_set ?_ GE886.out) | exact HB.out)⟩
def swarfkit_Ints.f (l0 : List Int) : Option (List Int) := (some (([] : List Int) : List Int)).bind fun y890 => (if y890.length + l0.length < 17592186044416 then (some (y890 ++ l0)) else (none))
set_option maxHeartbeats 8000000 in
set_option maxRecDepth 100000 in
theorem swarfkit_Ints.calls (A0 : Option Addr) (c0 : Nat) (l0 : List Int) (r : List Int) (w : World) (hr0 : Kd.C (Kd.int .i64) w A0 l0.length l0) (hc0 : l0.length ≤ c0) (h : swarfkit_Ints.f l0 = some r) :
    Calls Try.prog 56 #[.slice A0 l0.length c0] w fun e w' => ∃ v0_ : Value, e = .returned (v0_) ∧ Kd.R (Kd.int .i64) 3 w' w.heap.size (fun _ => True) v0_ r ∧ Below w.heap.size w w' := by
  have HR0 := Aside0.mk hr0
  have HC0 := Aside0.mk hc0
  clear hr0 hc0
  have HB := Aside0.mk (Below.refl w.heap.size w)
  have H : ((some (([] : List Int) : List Int)).bind fun y890 => (if y890.length + l0.length < 17592186044416 then (some (y890 ++ l0)) else (none))) = some r := h
  clear h
  obtain ⟨y890, hy890⟩ : ∃ y_ : List Int, y_ = (([] : List Int)) := ⟨_, rfl⟩
  replace H : (if y890.length + l0.length < 17592186044416 then (some (y890 ++ l0)) else (none)) = some r := by first | (rw [hy890]; with_reducible exact H) | (have H2_ := (Option.bind_some _ _).symm.trans H; rw [hy890]; with_reducible exact H2_) | (have H2_ := (Option.bind_some _ _).symm.trans H; with_reducible exact H2_) | with_reducible exact H | (rw [hy890]; exact H) | exact H
  have Ny890 := Aside0.mk hy890
  clear hy890
  by_cases c2 : y890.length + l0.length < 17592186044416
  · rw [if_pos c2] at H
    have LMc2 := Aside0.mk c2
    clear c2
    obtain ⟨y893, hy893⟩ : ∃ y_ : List Int, y_ = (y890 ++ l0) := ⟨_, rfl⟩
    replace H : (some y893) = some r := by first | (rw [hy893]; with_reducible exact H) | (have H2_ := (Option.bind_some _ _).symm.trans H; rw [hy893]; with_reducible exact H2_) | (have H2_ := (Option.bind_some _ _).symm.trans H; with_reducible exact H2_) | with_reducible exact H | (rw [hy893]; exact H) | exact H
    have Ny893 := Aside0.mk hy893
    clear hy893
    obtain rfl := Option.some.inj H
    go_enter Try.func56, Try.ntmps56
    go_wp2_with (first | ((with_reducible refine gate_dst (N := 3) rfl ?_); refine Kd.R_lit (Kd.int .i64) _ 3 ?hg (N := 3) ?hd (xs := ([] : List Int)) (inner := []) (ok := fun _ => True) (okp := fun _ => True) ?hr ?hp (fun _ hk => hk) trivial (Below.refl _ _) (Nat.le_refl _) (by simp) ?_; (case hd => rfl); (case hg => rfl); (case hr => first | (go_simp; done) | (go_simp; rfl)); (case hp => exact (Reps.none _ _)); intro v891 w3 ho4 hb hg_ hnew_; clear hg_ hnew_; (first | rw [← Ny890.out] at ho4 | (simp only [Int.reduceToNat] at ho4; rw [← Ny890.out] at ho4)); have n0_ := Aside0.mk (Kd.R_lower ho4 (below_size (by repeat (first | (with_reducible first | exact HB.out | apply below_alloc | apply pw_below_drewN | apply below_drew1) | exact HB.out)))); have n1_ := Aside0.mk (below_step (by repeat (first | (with_reducible first | exact HB.out | apply below_alloc | apply pw_below_drewN | apply below_drew1) | exact HB.out)) hb); clear HB; have HO892 := n0_; have HB := n1_; clear n0_ n1_; clear hb ho4) | ((with_reducible refine gate_builtin (b := .append) (xs := #[.tmp 3, .tmp 4]) rfl ?_); at_builtin; refine Kd.R_append_rows (Kd.int .i64) (w0 := w) w.heap.size rfl (.tmp 3) (.tmp 4) 27 3 (.int .i64 0) 8 rfl Try.underlying27 info3 rfl (by decide) (by omega) v891 y890 l0 _ _ _ (fun _ => True) (fun _ => False) rfl rfl ?aO ?aR (fun _ _ h => h) (fun _ h => h.elim) ?aF ?aB ?aS ?aL ?_; (case aR => repeat (first | exact (Kd.C_below HR0.out HB.out) | (with_reducible refine Kd.C_alloc ?_ _) | (with_reducible refine Kd.C_drewN ?_ _) | (with_reducible refine Kd.C_drew ?_))); (case aB => exact (by repeat (first | (with_reducible first | exact HB.out | apply below_alloc | apply pw_below_drewN | apply below_drew1) | exact HB.out))); (case aF => exact (fun _ _ => trivial)); (case aO => exact (by (with_reducible repeat (first | apply Kd.R_alloc | apply Kd.R_drewN | apply Kd.R_drew)); exact HO892.out)); (case aS => exact (below_size (by repeat (first | (with_reducible first | exact HB.out | apply below_alloc | apply pw_below_drewN | apply below_drew1) | exact HB.out)))); (case aL => have := LMc2.out; omega); intro v894 w5 ho hb hg hat; rw [← Ny893.out] at ho; have n0_ := Aside0.mk (hb); have n1_ := Aside0.mk (ho); clear HB; clear HO892; have HB := n0_; have HO895 := n1_; clear n0_ n1_; clear ho hb hg hat))
    go_ret
    exact ⟨_, by first | rfl | (simp [errW_none, errW_some] <;> rfl) | (simp [*, errW_none, errW_some] <;> rfl), by (with_reducible repeat (first | apply Kd.R_alloc | apply Kd.R_drewN | apply Kd.R_drew)); exact HO895.out, by repeat (first | (with_reducible first | exact HB.out | apply below_alloc | apply pw_below_drewN | apply below_drew1) | exact HB.out)⟩
  · rw [if_neg c2] at H
    exact absurd H (by simp)
def pay_exposed.f (l0_0 : List (S24)) (a0_1 : Int) (a0_2 : Int) (a0_3 : Int) (a1 : Int) (a2 : Int) : Option (Int × Int) := if 0 ≤ a1 then (if a1 < (l0_0.length : Int) then (some (wrap64 (((rd_T24 l0_0 a1).f0) - (wrap64 (a0_1 * a2))), wrap64 (((rd_T24 l0_0 a1).f1) - (wrap64 (a0_1 * a2))))) else (none)) else (none)
def pay_exposed.T1 : Bool × List (List Nat × List Nat) := (true, [([], []), ([0], [0]), ([], []), ([1, 2], [1, 2]), ([3], [3]), ([4], [4]), ([], []), ([6], [6]), ([], []), ([7, 8], [7, 8]), ([5, 9], [5, 9]), ([], []), ([11], [11]), ([], []), ([12, 13], [12, 13]), ([14], [14]), ([15], [15]), ([], []), ([17], [17]), ([], []), ([18, 19], [18, 19]), ([16, 20], [16, 20]), ([10, 21], [10, 21]), ([22, 0, 1, 2, 3, 4, 5, 6, 7, 8, 9, 10, 11, 12, 13, 14, 15, 16, 17, 18, 19, 20, 21, 22], [22])])
def pay_exposed.B1 : List Nat := [0, 1, 0, 7, 15, 31, 0, 64, 0, 448, 1023, 0, 2048, 0, 14336, 30720, 63488, 0, 131072, 0, 917504, 2095104, 4194303, 8388607]
theorem pay_exposed.tab1 : rtab .any (opsOf Try.f106 1) = pay_exposed.T1 := by kernel_rfl
theorem pay_exposed.bits1 : waitsOk pay_exposed.T1.2 pay_exposed.B1 = true := by kernel_rfl
set_option maxHeartbeats 8000000 in
set_option maxRecDepth 100000 in
theorem pay_exposed.calls (A0_0 : Option Addr) (c0_0 : Nat) (l0_0 : List (S24)) (a0_1 : Int) (a0_2 : Int) (a0_3 : Int) (a1 : Int) (a2 : Int) (r1 : Int) (r2 : Int) (w : World) (hr0_0 : Kd.C k24 w A0_0 l0_0.length l0_0) (hc0_0 : l0_0.length ≤ c0_0) (h : pay_exposed.f l0_0 a0_1 a0_2 a0_3 a1 a2 = some (r1, r2)) :
    Calls Try.prog 106 #[.agg #[.slice A0_0 l0_0.length c0_0, .int .i64 a0_1, .int .i64 a0_2, .int .i64 a0_3], .int .i64 a1, .int .i64 a2] w fun e w' => e = .returned (.agg #[.int .i64 r1, .int .i64 r2]) ∧ Below w.heap.size w w' := by
  have hu87 := Try.underlying87
  have hu24 := Try.underlying24
  have HR0_0 := Aside0.mk hr0_0
  have HC0_0 := Aside0.mk hc0_0
  clear hr0_0 hc0_0
  have HB := Aside0.mk (Below.refl w.heap.size w)
  have H : (if 0 ≤ a1 then (if a1 < (l0_0.length : Int) then (some (wrap64 (((rd_T24 l0_0 a1).f0) - (wrap64 (a0_1 * a2))), wrap64 (((rd_T24 l0_0 a1).f1) - (wrap64 (a0_1 * a2))))) else (none)) else (none)) = some (r1, r2) := h
  clear h
  by_cases c4 : 0 ≤ a1
  · rw [if_pos c4] at H
    have c4b0 : decide (0 ≤ a1) = true := decide_eq_true c4
    clear c4
    by_cases c5 : a1 < (l0_0.length : Int)
    · rw [if_pos c5] at H
      have c5b0 : decide (a1 < (l0_0.length : Int)) = true := decide_eq_true c5
      clear c5
      simp only [Option.some.injEq, Prod.mk.injEq] at H
      obtain ⟨rfl, rfl⟩ := H
      go_enter Try.func106, Try.ntmps106
      try go_wp2_with (first | ((with_reducible refine gate_dst (N := 3) rfl ?_); refine box_event ?hg (N := 3) ?hd (cs := #[.slice A0_0 l0_0.length c0_0, .int .i64 a0_1, .int .i64 a0_2, .int .i64 a0_3]) (t := 87) ?hr ?_; (case hd => rfl); (case hg => rfl); (case hr => first | (go_simp; done) | (go_simp; rfl)); intro gb896 hg w6 hbox hb; have n0_ := Aside0.mk (below_step (by repeat (first | (with_reducible first | exact HB.out | apply below_alloc | apply pw_below_drewN | apply below_drew1) | exact HB.out)) hb); have n1_ := Aside0.mk (hbox); have n2_ := Aside0.mk ((by rw [hg]; exact (below_size (by repeat (first | (with_reducible first | exact HB.out | apply below_alloc | apply pw_below_drewN | apply below_drew1) | exact HB.out))) : w.heap.size ≤ gb896)); have n3_ := Aside0.mk ((by rw [hg]; exact (below_size (by repeat (first | (with_reducible first | exact HB.out | apply below_alloc | apply pw_below_drewN | apply below_drew1) | exact HB.out))) : w.heap.size ≤ gb896)); clear HB; have HB := n0_; have BK896 := n1_; have GW896 := n2_; have GE896 := n3_; clear n0_ n1_ n2_ n3_; clear hb hbox hg) | ((with_reducible refine gate_dst (N := 6) rfl ?_); refine box_event ?hg (N := 6) ?hd (cs := #[.int .i64 0, .int .i64 0]) (t := 24) ?hr ?_; (case hd => rfl); (case hg => rfl); (case hr => first | (go_simp; done) | (go_simp; rfl)); intro gb897 hg w7 hbox hb; have n0_ := Aside0.mk (blk_below (g := gb896) (o := .cells #[.slice A0_0 l0_0.length c0_0, .int .i64 a0_1, .int .i64 a0_2, .int .i64 a0_3] 87 (0, 0)) (by (with_reducible repeat (first | refine blk_drewN ?_ _ | refine blk_drew ?_ | refine blk_alloc ?_ _)); exact BK896.out) hb); have n1_ := Aside0.mk (below_step (by repeat (first | (with_reducible first | exact HB.out | apply below_alloc | apply pw_below_drewN | apply below_drew1 | refine below_set ?_ GE896.out) | exact HB.out)) hb); have n2_ := Aside0.mk (hbox); have n3_ := Aside0.mk ((by rw [hg]; exact (below_size (by repeat (first | (with_reducible first | exact HB.out | apply below_alloc | apply pw_below_drewN | apply below_drew1 | refine below_set ?_ GE896.out) | exact HB.out))) : w.heap.size ≤ gb897)); have n4_ := Aside0.mk ((by rw [hg]; exact (below_size (by repeat (first | (with_reducible first | exact HB.out | apply below_alloc | apply pw_below_drewN | apply below_drew1 | refine below_set ?_ GE896.out) | exact HB.out))) : w.heap.size ≤ gb897)); have n5_ := Aside0.mk ((by rw [hg]; exact Nat.ne_of_lt (blk_lt (g := gb896) (o := .cells #[.slice A0_0 l0_0.length c0_0, .int .i64 a0_1, .int .i64 a0_2, .int .i64 a0_3] 87 (0, 0)) (by (with_reducible repeat (first | refine blk_drewN ?_ _ | refine blk_drew ?_ | refine blk_alloc ?_ _)); exact BK896.out)) : gb896 ≠ gb897)); have n6_ := Aside0.mk ((by rw [hg]; exact Nat.ne_of_gt (blk_lt (g := gb896) (o := .cells #[.slice A0_0 l0_0.length c0_0, .int .i64 a0_1, .int .i64 a0_2, .int .i64 a0_3] 87 (0, 0)) (by (with_reducible repeat (first | refine blk_drewN ?_ _ | refine blk_drew ?_ | refine blk_alloc ?_ _)); exact BK896.out)) : gb897 ≠ gb896)); clear BK896; clear HB; have BK896 := n0_; have HB := n1_; have BK897 := n2_; have GW897 := n3_; have GE897 := n4_; have NB896_897 := n5_; have NB897_896 := n6_; clear n0_ n1_ n2_ n3_ n4_ n5_ n6_; clear hb hbox hg))
      have n0_ := Aside0.mk (blk_drew BK896.out)
      have n1_ := Aside0.mk (blk_drew BK897.out)
      have n2_ := Aside0.mk (below_drew1 HB.out)
      clear BK896
      clear BK897
      clear HB
      have BK896 := n0_
      have BK897 := n1_
      have HB := n2_
      clear n0_ n1_ n2_
      have p898 : 0 ≤ (a1 : Int) := of_decide_eq_true (by first | (with_reducible assumption) | assumption)
      have q898 : a1 < (l0_0.length : Int) := of_decide_eq_true (by first | (with_reducible assumption) | assumption)
      obtain ⟨ad898, e898, hx898_0, hx898_1⟩ := at_T24 HR0_0.out a1 p898 q898
      have hw898_1 := hx898_1
      have hw898_0 := hx898_0
      cases e898
      replace hx898_0 := (HB.out.cell (World.block_lt_of_cell? w _ hx898_0)).trans hx898_0
      replace hx898_1 := (HB.out.cell (World.block_lt_of_cell? w _ hx898_1)).trans hx898_1
      replace p898 := eq_true p898
      replace q898 := eq_true q898
      have p899 : 0 ≤ (a1 : Int) := of_decide_eq_true (by first | (with_reducible assumption) | assumption)
      have q899 : a1 < (l0_0.length : Int) := of_decide_eq_true (by first | (with_reducible assumption) | assumption)
      obtain ⟨ad899, e899, hx899_0, hx899_1⟩ := at_T24 HR0_0.out a1 p899 q899
      have hw899_1 := hx899_1
      have hw899_0 := hx899_0
      obtain rfl : ad898 = ad899 := (by injection e899)
      replace hx899_0 := (HB.out.cell (World.block_lt_of_cell? w _ hx899_0)).trans hx899_0
      replace hx899_1 := (HB.out.cell (World.block_lt_of_cell? w _ hx899_1)).trans hx899_1
      replace p899 := eq_true p899
      replace q899 := eq_true q899
      refine start_ (n := 24) (S := fun w' => w'.cell? ⟨gb896, 0, none⟩ = some (.slice (some ad898) l0_0.length c0_0) ∧ w'.cell? ⟨gb896, 1, none⟩ = some (.int .i64 a0_1) ∧ w'.cell? ⟨gb896, 2, none⟩ = some (.int .i64 a0_2) ∧ w'.cell? ⟨gb896, 3, none⟩ = some (.int .i64 a0_3) ∧ w'.cell? (ad898.add ((a1).toNat * 2)) = some (.int .i64 ((rd_T24 l0_0 a1).f0)) ∧ w'.cell? ⟨(ad898.add ((a1).toNat * 2)).block, (ad898.add ((a1).toNat * 2)).off + 1, none⟩ = some (.int .i64 ((rd_T24 l0_0 a1).f1)) ∧ w'.cell? (ad898.add ((a1).toNat * 2)) = some (.int .i64 ((rd_T24 l0_0 a1).f0)) ∧ w'.cell? ⟨(ad898.add ((a1).toNat * 2)).block, (ad898.add ((a1).toNat * 2)).off + 1, none⟩ = some (.int .i64 ((rd_T24 l0_0 a1).f1))) (ds := []) #[false, false, false, false, false, false, false, false, false, false, false, false, false, false, false, false, false, false, false, false, false, false, false, false] (by kernel_rfl) rfl rfl ⟨(blk_cell BK896.out 0).trans rfl, (blk_cell BK896.out 1).trans rfl, (blk_cell BK896.out 2).trans rfl, (blk_cell BK896.out 3).trans rfl, ((HB.out.cell (World.block_lt_of_cell? w _ hw898_0)).trans hw898_0), ((HB.out.cell (World.block_lt_of_cell? w _ hw898_1)).trans hw898_1), ((HB.out.cell (World.block_lt_of_cell? w _ hw899_0)).trans hw899_0), ((HB.out.cell (World.block_lt_of_cell? w _ hw899_1)).trans hw899_1)⟩ (fun hHeld => ?_); refine with_tabW pay_exposed.tab1 pay_exposed.bits1 (fun HT_ HW_ => ?_)
      generalize w7.drew = w8 at BK896 BK897 HB hx898_0 hx898_1 hx899_0 hx899_1 hHeld ⊢
      refine pure_ (i := 0) (N := some 7) (v := ?_) (a' := ?_) #[true, false, false, false, false, false, false, false, false, false, false, false, false, false, false, false, false, false, false, false, false, false, false, false] rfl rfl (any_of HT_.out (by kernel_rfl)) (fun _ _ _ h => h) (Or.inl ⟨by rfl, ?_⟩) ?_ ?_
      rotate_left
      · intro w'
        go_simp
        with_reducible rfl
      rotate_left
      · simp only [Act.put, List.setIfInBounds_toArray, List.set_cons_zero, List.set_cons_succ, i64_w, i32_w]
        rfl
      refine pure_ (i := 2) (N := some 9) (v := ?_) (a' := ?_) #[true, false, true, false, false, false, false, false, false, false, false, false, false, false, false, false, false, false, false, false, false, false, false, false] rfl rfl (any_of HT_.out (by kernel_rfl)) (fun _ _ _ h => h) (Or.inl ⟨by rfl, ?_⟩) ?_ ?_
      rotate_left
      · intro w'
        go_simp
        with_reducible rfl
      rotate_left
      · simp only [Act.put, List.setIfInBounds_toArray, List.set_cons_zero, List.set_cons_succ, i64_w, i32_w]
        rfl
      refine pure_ (i := 6) (N := some 13) (v := ?_) (a' := ?_) #[true, false, true, false, false, false, true, false, false, false, false, false, false, false, false, false, false, false, false, false, false, false, false, false] rfl rfl (any_of HT_.out (by kernel_rfl)) (fun _ _ _ h => h) (Or.inl ⟨by rfl, ?_⟩) ?_ ?_
      rotate_left
      · intro w'
        go_simp
        with_reducible rfl
      rotate_left
      · simp only [Act.put, List.setIfInBounds_toArray, List.set_cons_zero, List.set_cons_succ, i64_w, i32_w]
        rfl
      refine pure_ (i := 8) (N := some 15) (v := ?_) (a' := ?_) #[true, false, true, false, false, false, true, false, true, false, false, false, false, false, false, false, false, false, false, false, false, false, false, false] rfl rfl (any_of HT_.out (by kernel_rfl)) (fun _ _ _ h => h) (Or.inl ⟨by rfl, ?_⟩) ?_ ?_
      rotate_left
      · intro w'
        go_simp
        with_reducible rfl
      rotate_left
      · simp only [Act.put, List.setIfInBounds_toArray, List.set_cons_zero, List.set_cons_succ, i64_w, i32_w]
        rfl
      refine pure_ (i := 11) (N := some 18) (v := ?_) (a' := ?_) #[true, false, true, false, false, false, true, false, true, false, false, true, false, false, false, false, false, false, false, false, false, false, false, false] rfl rfl (any_of HT_.out (by kernel_rfl)) (fun _ _ _ h => h) (Or.inl ⟨by rfl, ?_⟩) ?_ ?_
      rotate_left
      · intro w'
        go_simp
        with_reducible rfl
      rotate_left
      · simp only [Act.put, List.setIfInBounds_toArray, List.set_cons_zero, List.set_cons_succ, i64_w, i32_w]
        rfl
      refine pure_ (i := 13) (N := some 20) (v := ?_) (a' := ?_) #[true, false, true, false, false, false, true, false, true, false, false, true, false, true, false, false, false, false, false, false, false, false, false, false] rfl rfl (any_of HT_.out (by kernel_rfl)) (fun _ _ _ h => h) (Or.inl ⟨by rfl, ?_⟩) ?_ ?_
      rotate_left
      · intro w'
        go_simp
        with_reducible rfl
      rotate_left
      · simp only [Act.put, List.setIfInBounds_toArray, List.set_cons_zero, List.set_cons_succ, i64_w, i32_w]
        rfl
      refine pure_ (i := 17) (N := some 24) (v := ?_) (a' := ?_) #[true, false, true, false, false, false, true, false, true, false, false, true, false, true, false, false, false, true, false, false, false, false, false, false] rfl rfl (any_of HT_.out (by kernel_rfl)) (fun _ _ _ h => h) (Or.inl ⟨by rfl, ?_⟩) ?_ ?_
      rotate_left
      · intro w'
        go_simp
        with_reducible rfl
      rotate_left
      · simp only [Act.put, List.setIfInBounds_toArray, List.set_cons_zero, List.set_cons_succ, i64_w, i32_w]
        rfl
      refine pure_ (i := 19) (N := some 26) (v := ?_) (a' := ?_) #[true, false, true, false, false, false, true, false, true, false, false, true, false, true, false, false, false, true, false, true, false, false, false, false] rfl rfl (any_of HT_.out (by kernel_rfl)) (fun _ _ _ h => h) (Or.inl ⟨by rfl, ?_⟩) ?_ ?_
      rotate_left
      · intro w'
        go_simp
        with_reducible rfl
      rotate_left
      · simp only [Act.put, List.setIfInBounds_toArray, List.set_cons_zero, List.set_cons_succ, i64_w, i32_w]
        rfl
      refine take_ (i := 1) (N := some 8) (v := ?_) (a' := ?_) #[true, true, true, false, false, false, true, false, true, false, false, true, false, true, false, false, false, true, false, true, false, false, false, false] rfl rfl (take_ofW HT_.out HW_.out (by kernel_rfl)) (fun _ _ _ h => h) (Or.inl ⟨by rfl, ?_⟩) hHeld ?_ ?_
      rotate_left
      · rintro w' ⟨s0, s1, s2, s3, s4, s5, s6, s7⟩
        go_simp
        with_reducible rfl
      rotate_left
      · simp only [Act.put, List.setIfInBounds_toArray, List.set_cons_zero, List.set_cons_succ, i64_w, i32_w]
        rfl
      refine pure_ (i := 3) (N := some 10) (v := ?_) (a' := ?_) #[true, true, true, true, false, false, true, false, true, false, false, true, false, true, false, false, false, true, false, true, false, false, false, false] rfl rfl (any_of HT_.out (by kernel_rfl)) (fun _ _ _ h => h) (Or.inl ⟨by rfl, ?_⟩) ?_ ?_
      rotate_left
      · intro w'
        go_simp
        with_reducible rfl
      rotate_left
      · simp only [Act.put, List.setIfInBounds_toArray, List.set_cons_zero, List.set_cons_succ, i64_w, i32_w]
        rfl
      refine pure_ (i := 4) (N := some 11) (v := ?_) (a' := ?_) #[true, true, true, true, true, false, true, false, true, false, false, true, false, true, false, false, false, true, false, true, false, false, false, false] rfl rfl (any_of HT_.out (by kernel_rfl)) (fun _ _ _ h => h) (Or.inl ⟨by rfl, ?_⟩) ?_ ?_
      rotate_left
      · intro w'
        go_simp
        with_reducible rfl
      rotate_left
      · simp only [Act.put, List.setIfInBounds_toArray, List.set_cons_zero, List.set_cons_succ, i64_w, i32_w]
        rfl
      refine take_ (i := 5) (N := some 12) (v := ?_) (a' := ?_) #[true, true, true, true, true, true, true, false, true, false, false, true, false, true, false, false, false, true, false, true, false, false, false, false] rfl rfl (take_ofW HT_.out HW_.out (by kernel_rfl)) (fun _ _ _ h => h) (Or.inl ⟨by rfl, ?_⟩) hHeld ?_ ?_
      rotate_left
      · rintro w' ⟨s0, s1, s2, s3, s4, s5, s6, s7⟩
        go_simp
        with_reducible rfl
      rotate_left
      · simp only [Act.put, List.setIfInBounds_toArray, List.set_cons_zero, List.set_cons_succ, i64_w, i32_w]
        rfl
      refine take_ (i := 7) (N := some 14) (v := ?_) (a' := ?_) #[true, true, true, true, true, true, true, true, true, false, false, true, false, true, false, false, false, true, false, true, false, false, false, false] rfl rfl (take_ofW HT_.out HW_.out (by kernel_rfl)) (fun _ _ _ h => h) (Or.inl ⟨by rfl, ?_⟩) hHeld ?_ ?_
      rotate_left
      · rintro w' ⟨s0, s1, s2, s3, s4, s5, s6, s7⟩
        go_simp
        with_reducible rfl
      rotate_left
      · simp only [Act.put, List.setIfInBounds_toArray, List.set_cons_zero, List.set_cons_succ, i64_w, i32_w]
        rfl
      refine pure_ (i := 9) (N := some 16) (v := ?_) (a' := ?_) #[true, true, true, true, true, true, true, true, true, true, false, true, false, true, false, false, false, true, false, true, false, false, false, false] rfl rfl (any_of HT_.out (by kernel_rfl)) (fun _ _ _ h => h) (Or.inl ⟨by rfl, ?_⟩) ?_ ?_
      rotate_left
      · intro w'
        go_simp
        with_reducible rfl
      rotate_left
      · simp only [Act.put, List.setIfInBounds_toArray, List.set_cons_zero, List.set_cons_succ, i64_w, i32_w]
        rfl
      refine pure_ (i := 10) (N := some 17) (v := ?_) (a' := ?_) #[true, true, true, true, true, true, true, true, true, true, true, true, false, true, false, false, false, true, false, true, false, false, false, false] rfl rfl (any_of HT_.out (by kernel_rfl)) (fun _ _ _ h => h) (Or.inl ⟨by rfl, ?_⟩) ?_ ?_
      rotate_left
      · intro w'
        go_simp
        with_reducible rfl
      rotate_left
      · simp only [Act.put, List.setIfInBounds_toArray, List.set_cons_zero, List.set_cons_succ, i64_w, i32_w]
        rfl
      refine take_ (i := 12) (N := some 19) (v := ?_) (a' := ?_) #[true, true, true, true, true, true, true, true, true, true, true, true, true, true, false, false, false, true, false, true, false, false, false, false] rfl rfl (take_ofW HT_.out HW_.out (by kernel_rfl)) (fun _ _ _ h => h) (Or.inl ⟨by rfl, ?_⟩) hHeld ?_ ?_
      rotate_left
      · rintro w' ⟨s0, s1, s2, s3, s4, s5, s6, s7⟩
        go_simp
        with_reducible rfl
      rotate_left
      · simp only [Act.put, List.setIfInBounds_toArray, List.set_cons_zero, List.set_cons_succ, i64_w, i32_w]
        rfl
      refine pure_ (i := 14) (N := some 21) (v := ?_) (a' := ?_) #[true, true, true, true, true, true, true, true, true, true, true, true, true, true, true, false, false, true, false, true, false, false, false, false] rfl rfl (any_of HT_.out (by kernel_rfl)) (fun _ _ _ h => h) (Or.inl ⟨by rfl, ?_⟩) ?_ ?_
      rotate_left
      · intro w'
        go_simp
        with_reducible rfl
      rotate_left
      · simp only [Act.put, List.setIfInBounds_toArray, List.set_cons_zero, List.set_cons_succ, i64_w, i32_w]
        rfl
      refine pure_ (i := 15) (N := some 22) (v := ?_) (a' := ?_) #[true, true, true, true, true, true, true, true, true, true, true, true, true, true, true, true, false, true, false, true, false, false, false, false] rfl rfl (any_of HT_.out (by kernel_rfl)) (fun _ _ _ h => h) (Or.inl ⟨by rfl, ?_⟩) ?_ ?_
      rotate_left
      · intro w'
        go_simp
        with_reducible rfl
      rotate_left
      · simp only [Act.put, List.setIfInBounds_toArray, List.set_cons_zero, List.set_cons_succ, i64_w, i32_w]
        rfl
      refine take_ (i := 16) (N := some 23) (v := ?_) (a' := ?_) #[true, true, true, true, true, true, true, true, true, true, true, true, true, true, true, true, true, true, false, true, false, false, false, false] rfl rfl (take_ofW HT_.out HW_.out (by kernel_rfl)) (fun _ _ _ h => h) (Or.inl ⟨by rfl, ?_⟩) hHeld ?_ ?_
      rotate_left
      · rintro w' ⟨s0, s1, s2, s3, s4, s5, s6, s7⟩
        go_simp
        with_reducible rfl
      rotate_left
      · simp only [Act.put, List.setIfInBounds_toArray, List.set_cons_zero, List.set_cons_succ, i64_w, i32_w]
        rfl
      refine take_ (i := 18) (N := some 25) (v := ?_) (a' := ?_) #[true, true, true, true, true, true, true, true, true, true, true, true, true, true, true, true, true, true, true, true, false, false, false, false] rfl rfl (take_ofW HT_.out HW_.out (by kernel_rfl)) (fun _ _ _ h => h) (Or.inl ⟨by rfl, ?_⟩) hHeld ?_ ?_
      rotate_left
      · rintro w' ⟨s0, s1, s2, s3, s4, s5, s6, s7⟩
        go_simp
        with_reducible rfl
      rotate_left
      · simp only [Act.put, List.setIfInBounds_toArray, List.set_cons_zero, List.set_cons_succ, i64_w, i32_w]
        rfl
      refine pure_ (i := 20) (N := some 27) (v := ?_) (a' := ?_) #[true, true, true, true, true, true, true, true, true, true, true, true, true, true, true, true, true, true, true, true, true, false, false, false] rfl rfl (any_of HT_.out (by kernel_rfl)) (fun _ _ _ h => h) (Or.inl ⟨by rfl, ?_⟩) ?_ ?_
      rotate_left
      · intro w'
        go_simp
        with_reducible rfl
      rotate_left
      · simp only [Act.put, List.setIfInBounds_toArray, List.set_cons_zero, List.set_cons_succ, i64_w, i32_w]
        rfl
      refine pure_ (i := 21) (N := some 28) (v := ?_) (a' := ?_) #[true, true, true, true, true, true, true, true, true, true, true, true, true, true, true, true, true, true, true, true, true, true, false, false] rfl rfl (any_of HT_.out (by kernel_rfl)) (fun _ _ _ h => h) (Or.inl ⟨by rfl, ?_⟩) ?_ ?_
      rotate_left
      · intro w'
        go_simp
        with_reducible rfl
      rotate_left
      · simp only [Act.put, List.setIfInBounds_toArray, List.set_cons_zero, List.set_cons_succ, i64_w, i32_w]
        rfl
      refine pure_ (i := 22) (N := some 29) (v := ?_) (a' := ?_) #[true, true, true, true, true, true, true, true, true, true, true, true, true, true, true, true, true, true, true, true, true, true, true, false] rfl rfl (any_of HT_.out (by kernel_rfl)) (fun _ _ _ h => h) (Or.inl ⟨by rfl, ?_⟩) ?_ ?_
      rotate_left
      · intro w'
        go_simp
        with_reducible rfl
      rotate_left
      · simp only [Act.put, List.setIfInBounds_toArray, List.set_cons_zero, List.set_cons_succ, i64_w, i32_w]
        rfl
      refine one_ (i := 23) (N := none) #[true, true, true, true, true, true, true, true, true, true, true, true, true, true, true, true, true, true, true, true, true, true, true, true] rfl rfl (one_of HT_.out (by kernel_rfl)) (by decide) (fun K hK => ?_)
      have hs9 : w8.cell? ⟨gb897, 0, none⟩ = some (.int .i64 0) := (blk_cell BK897.out 0).trans rfl
      have hfs9 := blk_frozen BK897.out 0
      have hns9_0 := NB896_897.out
      have hms9_0 := NB897_896.out
      have hs10 : w8.cell? ⟨gb897, 1, none⟩ = some (.int .i64 0) := (blk_cell BK897.out 1).trans rfl
      have hfs10 := blk_frozen BK897.out 1
      have hns10_0 := NB896_897.out
      have hms10_0 := NB897_896.out
      refine skip_ (w1 := ?_) (by rfl) rfl ?_ ?_
      rotate_left
      · go_simp
        rfl
      refine hK.out _ _ ⟨((cell_far (p := ⟨gb897, _, none⟩) NB896_897.out _).trans (((cell_far (p := ⟨gb897, _, none⟩) NB896_897.out _).trans (hHeld.1)))), ((cell_far (p := ⟨gb897, _, none⟩) NB896_897.out _).trans (((cell_far (p := ⟨gb897, _, none⟩) NB896_897.out _).trans (hHeld.2.1)))), ((cell_far (p := ⟨gb897, _, none⟩) NB896_897.out _).trans (((cell_far (p := ⟨gb897, _, none⟩) NB896_897.out _).trans (hHeld.2.2.1)))), ((cell_far (p := ⟨gb897, _, none⟩) NB896_897.out _).trans (((cell_far (p := ⟨gb897, _, none⟩) NB896_897.out _).trans (hHeld.2.2.2.1)))), ((cell_far (p := ⟨gb897, _, none⟩) (by first | exact Nat.ne_of_lt (Nat.lt_of_lt_of_le (by have := World.block_lt_of_cell? _ _ hw898_0; first | rwa [add_block] at this | exact this) GW897.out) | (rw [add_block]; exact Nat.ne_of_lt (Nat.lt_of_lt_of_le (by have := World.block_lt_of_cell? _ _ hw898_0; first | rwa [add_block] at this | exact this) GW897.out)) | (show (Addr.add _ _).block ≠ _; rw [add_block]; exact Nat.ne_of_lt (Nat.lt_of_lt_of_le (by have := World.block_lt_of_cell? _ _ hw898_0; first | rwa [add_block] at this | exact this) GW897.out)) | (dsimp only; exact Nat.ne_of_lt (Nat.lt_of_lt_of_le (by have := World.block_lt_of_cell? _ _ hw898_0; first | rwa [add_block] at this | exact this) GW897.out))) _).trans (((cell_far (p := ⟨gb897, _, none⟩) (by first | exact Nat.ne_of_lt (Nat.lt_of_lt_of_le (by have := World.block_lt_of_cell? _ _ hw898_0; first | rwa [add_block] at this | exact this) GW897.out) | (rw [add_block]; exact Nat.ne_of_lt (Nat.lt_of_lt_of_le (by have := World.block_lt_of_cell? _ _ hw898_0; first | rwa [add_block] at this | exact this) GW897.out)) | (show (Addr.add _ _).block ≠ _; rw [add_block]; exact Nat.ne_of_lt (Nat.lt_of_lt_of_le (by have := World.block_lt_of_cell? _ _ hw898_0; first | rwa [add_block] at this | exact this) GW897.out)) | (dsimp only; exact Nat.ne_of_lt (Nat.lt_of_lt_of_le (by have := World.block_lt_of_cell? _ _ hw898_0; first | rwa [add_block] at this | exact this) GW897.out))) _).trans (hHeld.2.2.2.2.1)))), ((cell_far (p := ⟨gb897, _, none⟩) (by first | exact Nat.ne_of_lt (Nat.lt_of_lt_of_le (by have := World.block_lt_of_cell? _ _ hw898_1; first | rwa [add_block] at this | exact this) GW897.out) | (rw [add_block]; exact Nat.ne_of_lt (Nat.lt_of_lt_of_le (by have := World.block_lt_of_cell? _ _ hw898_1; first | rwa [add_block] at this | exact this) GW897.out)) | (show (Addr.add _ _).block ≠ _; rw [add_block]; exact Nat.ne_of_lt (Nat.lt_of_lt_of_le (by have := World.block_lt_of_cell? _ _ hw898_1; first | rwa [add_block] at this | exact this) GW897.out)) | (dsimp only; exact Nat.ne_of_lt (Nat.lt_of_lt_of_le (by have := World.block_lt_of_cell? _ _ hw898_1; first | rwa [add_block] at this | exact this) GW897.out))) _).trans (((cell_far (p := ⟨gb897, _, none⟩) (by first | exact Nat.ne_of_lt (Nat.lt_of_lt_of_le (by have := World.block_lt_of_cell? _ _ hw898_1; first | rwa [add_block] at this | exact this) GW897.out) | (rw [add_block]; exact Nat.ne_of_lt (Nat.lt_of_lt_of_le (by have := World.block_lt_of_cell? _ _ hw898_1; first | rwa [add_block] at this | exact this) GW897.out)) | (show (Addr.add _ _).block ≠ _; rw [add_block]; exact Nat.ne_of_lt (Nat.lt_of_lt_of_le (by have := World.block_lt_of_cell? _ _ hw898_1; first | rwa [add_block] at this | exact this) GW897.out)) | (dsimp only; exact Nat.ne_of_lt (Nat.lt_of_lt_of_le (by have := World.block_lt_of_cell? _ _ hw898_1; first | rwa [add_block] at this | exact this) GW897.out))) _).trans (hHeld.2.2.2.2.2.1)))), ((cell_far (p := ⟨gb897, _, none⟩) (by first | exact Nat.ne_of_lt (Nat.lt_of_lt_of_le (by have := World.block_lt_of_cell? _ _ hw899_0; first | rwa [add_block] at this | exact this) GW897.out) | (rw [add_block]; exact Nat.ne_of_lt (Nat.lt_of_lt_of_le (by have := World.block_lt_of_cell? _ _ hw899_0; first | rwa [add_block] at this | exact this) GW897.out)) | (show (Addr.add _ _).block ≠ _; rw [add_block]; exact Nat.ne_of_lt (Nat.lt_of_lt_of_le (by have := World.block_lt_of_cell? _ _ hw899_0; first | rwa [add_block] at this | exact this) GW897.out)) | (dsimp only; exact Nat.ne_of_lt (Nat.lt_of_lt_of_le (by have := World.block_lt_of_cell? _ _ hw899_0; first | rwa [add_block] at this | exact this) GW897.out))) _).trans (((cell_far (p := ⟨gb897, _, none⟩) (by first | exact Nat.ne_of_lt (Nat.lt_of_lt_of_le (by have := World.block_lt_of_cell? _ _ hw899_0; first | rwa [add_block] at this | exact this) GW897.out) | (rw [add_block]; exact Nat.ne_of_lt (Nat.lt_of_lt_of_le (by have := World.block_lt_of_cell? _ _ hw899_0; first | rwa [add_block] at this | exact this) GW897.out)) | (show (Addr.add _ _).block ≠ _; rw [add_block]; exact Nat.ne_of_lt (Nat.lt_of_lt_of_le (by have := World.block_lt_of_cell? _ _ hw899_0; first | rwa [add_block] at this | exact this) GW897.out)) | (dsimp only; exact Nat.ne_of_lt (Nat.lt_of_lt_of_le (by have := World.block_lt_of_cell? _ _ hw899_0; first | rwa [add_block] at this | exact this) GW897.out))) _).trans (hHeld.2.2.2.2.2.2.1)))), ((cell_far (p := ⟨gb897, _, none⟩) (by first | exact Nat.ne_of_lt (Nat.lt_of_lt_of_le (by have := World.block_lt_of_cell? _ _ hw899_1; first | rwa [add_block] at this | exact this) GW897.out) | (rw [add_block]; exact Nat.ne_of_lt (Nat.lt_of_lt_of_le (by have := World.block_lt_of_cell? _ _ hw899_1; first | rwa [add_block] at this | exact this) GW897.out)) | (show (Addr.add _ _).block ≠ _; rw [add_block]; exact Nat.ne_of_lt (Nat.lt_of_lt_of_le (by have := World.block_lt_of_cell? _ _ hw899_1; first | rwa [add_block] at this | exact this) GW897.out)) | (dsimp only; exact Nat.ne_of_lt (Nat.lt_of_lt_of_le (by have := World.block_lt_of_cell? _ _ hw899_1; first | rwa [add_block] at this | exact this) GW897.out))) _).trans (((cell_far (p := ⟨gb897, _, none⟩) (by first | exact Nat.ne_of_lt (Nat.lt_of_lt_of_le (by have := World.block_lt_of_cell? _ _ hw899_1; first | rwa [add_block] at this | exact this) GW897.out) | (rw [add_block]; exact Nat.ne_of_lt (Nat.lt_of_lt_of_le (by have := World.block_lt_of_cell? _ _ hw899_1; first | rwa [add_block] at this | exact this) GW897.out)) | (show (Addr.add _ _).block ≠ _; rw [add_block]; exact Nat.ne_of_lt (Nat.lt_of_lt_of_le (by have := World.block_lt_of_cell? _ _ hw899_1; first | rwa [add_block] at this | exact this) GW897.out)) | (dsimp only; exact Nat.ne_of_lt (Nat.lt_of_lt_of_le (by have := World.block_lt_of_cell? _ _ hw899_1; first | rwa [add_block] at this | exact this) GW897.out))) _).trans (hHeld.2.2.2.2.2.2.2))))⟩ (fun hHeld => ?_)
      clear hK K
      refine done_ (done_of HT_.out (by kernel_rfl)) ?_
      try go_wp2
      refine bodyPost_ret (results_cell_row rfl _ _ gb897 24 #[.int .i64 (wrap64 (((rd_T24 l0_0 a1).f0) - (wrap64 (a0_1 * a2)))), .int .i64 (wrap64 (((rd_T24 l0_0 a1).f1) - (wrap64 (a0_1 * a2))))] (0, 0) _ rfl (by (with_reducible repeat (first | refine blk_drewN ?_ _ | refine blk_drew ?_ | refine blk_alloc ?_ _)); refine blk_put (cs := #[.int .i64 (wrap64 (((rd_T24 l0_0 a1).f0) - (wrap64 (a0_1 * a2)))), .int .i64 0]) ?_ 1 _ rfl; (with_reducible repeat (first | refine blk_drewN ?_ _ | refine blk_drew ?_ | refine blk_alloc ?_ _)); refine blk_put (cs := #[.int .i64 0, .int .i64 0]) ?_ 0 _ rfl; (with_reducible repeat (first | refine blk_drewN ?_ _ | refine blk_drew ?_ | refine blk_alloc ?_ _)); exact BK897.out) Try.underlying24 rfl (by kernel_rfl)) rfl ?_
      exact ⟨by first | rfl | (simp [errW_none, errW_some] <;> rfl) | (simp [*, errW_none, errW_some] <;> rfl), by repeat (first | (with_reducible first | exact HB.out | apply below_alloc | apply pw_below_drewN | apply below_drew1 | refine below_set ?_ GE896.out | refine below_set ?_ GE897.out) | exact HB.out)⟩
    · rw [if_neg c5] at H
      exact absurd H (by simp)
  · rw [if_neg c4] at H
    exact absurd H (by simp)
end Go.Proofs.Ytkdlbocjgbmbdaa.Print

namespace Go.Proofs.Ytkdlbocjgbmbdaa.Print
open Go.RowKit Go.Shelf Go.Proofs.YtkdlbocjgbmbdaaW.PrintWords
set_option linter.unusedVariables false
attribute [local go_sem] Oper.semAt_some
attribute [local go_sem] wide_fn wide_asked
attribute [local go_sem ↓] Go.wp_at_zero Go.wp_at_succ
/-- All plans that go on from some lots, in their order: the one with the fewest trades is kept. -/
def planP (st : List S24) (lot bound : Int) : Nat → List Int → Nat → Int → List Int × Int → List Int × Int
  | 0, ps, _, t, s => if t < s.2 then (ps, t) else s
  | m + 1, ps, b, t, s => (List.range 10).foldl (fun s l => if outB st lot bound (st.length - (m + 1)) l = true then s else planP st lot bound m (ps ++ [(l : Int)]) l (t + distI b l) s) s
def planR (st : List S24) (lot bound : Int) (m : Nat) (ps : List Int) (b : Nat) (t : Int) (s : List Int × Int) (k : Nat) : List Int × Int :=
  (List.range k).foldl (fun s l => if outB st lot bound (st.length - (m + 1)) l = true then s else planP st lot bound m (ps ++ [(l : Int)]) l (t + distI b l) s) s
theorem planR_succ (st : List S24) (lot bound : Int) (m : Nat) (ps : List Int) (b : Nat) (t : Int) (s : List Int × Int) (k : Nat) :
    planR st lot bound m ps b t s (k + 1) = if outB st lot bound (st.length - (m + 1)) k = true then planR st lot bound m ps b t s k else planP st lot bound m (ps ++ [(k : Int)]) k (t + distI b k) (planR st lot bound m ps b t s k) := by
  rw [planR, List.range_succ, List.foldl_append]
  rfl
/-- What is kept of a world while the best plan is written. -/
structure Kp (w w' : World) (B : Nat) : Prop where
  os : w'.os = w.os
  tape : w'.tape = w.tape
  output : w'.output = w.output
  size : w.heap.size ≤ w'.heap.size
  block : ∀ k, k < w.heap.size → k ≠ B → k ≠ B + 1 → w'.heap[k]? = w.heap[k]?
theorem Kp.refl (w : World) (B : Nat) : Kp w w B := ⟨rfl, rfl, rfl, Nat.le_refl _, fun _ _ _ _ => rfl⟩
theorem Kp.trans {w w1 w2 : World} {B : Nat} (h : Kp w w1 B) (k : Kp w1 w2 B) : Kp w w2 B :=
  ⟨k.os.trans h.os, k.tape.trans h.tape, k.output.trans h.output, Nat.le_trans h.size k.size, fun i hi h1 h2 => (k.block i (Nat.lt_of_lt_of_le hi h.size) h1 h2).trans (h.block i hi h1 h2)⟩
theorem Kp.below {w w' : World} (h : Below w.heap.size w w') (B : Nat) : Kp w w' B := ⟨h.os, h.tape, h.output, h.size, fun k hk _ _ => h.block k hk⟩
theorem Kp.setCell {w w' : World} {B : Nat} (h : Kp w w' B) (p : Addr) (hp : p.block = B ∨ p.block = B + 1) (v : Value) : Kp w (w'.setCell p v) B :=
  ⟨h.os, h.tape, h.output, by simpa using h.size, fun k hk h1 h2 => (Below.heap_setCell w' p v k (by omega)).trans (h.block k hk h1 h2)⟩
theorem Kp.grown {w W W' : World} {B : Nat} {row : Option Nat} (h : Kp w W B) (hg : W.grownBy W' row) (hr : ∀ k, row = some k → w.heap.size ≤ k) : Kp w W' B :=
  ⟨hg.os.trans h.os, hg.tape.trans h.tape, hg.output.trans h.output, Nat.le_trans h.size hg.size, fun k hk h1 h2 => (hg.block k (Nat.lt_of_lt_of_le hk h.size) (fun e => by have := hr k e.symm; omega)).trans (h.block k hk h1 h2)⟩
theorem Kp.cell {w w' : World} {B : Nat} (h : Kp w w' B) {p : Addr} {v : Value} (hv : w.cell? p = some v) (h1 : p.block ≠ B) (h2 : p.block ≠ B + 1) : w'.cell? p = some v := by
  rw [← hv]
  simp only [World.cell?, h.block p.block (World.block_lt_of_cell? w _ hv) h1 h2]
theorem ints_self (ps : List Int) (h : ps.length ≤ 20) : swarfkit_Ints.f ps = some ps := by
  unfold swarfkit_Ints.f
  rw [Option.bind_some, if_pos (by simp; omega)]
  rfl
theorem Blk.kp {W W' : World} {B b : Nat} {t : TypeId} {cs : Array Value} (h : Blk W b t cs) (hk : Kp W W' B) (h1 : b ≠ B) (h2 : b ≠ B + 1) : Blk W' b t cs := (hk.block b h.lt h1 h2).trans h
theorem Kp.low {w0 w w' : World} {B : Nat} (h : Kp w w' B) (hL : Below w0.heap.size w0 w) (hB : w0.heap.size ≤ B) : Below w0.heap.size w0 w' :=
  ⟨h.os.trans hL.os, h.tape.trans hL.tape, h.output.trans hL.output, Nat.le_trans hL.size h.size, fun j hj => (h.block j (Nat.lt_of_lt_of_le hj hL.size) (by omega) (by omega)).trans (hL.block j hj)⟩
/-- A list of numbers that lies behind the two cells of the best plan. -/
def FarI (W : World) (B : Nat) (A : Option Addr) (xs : List Int) : Prop := Kd.C (Kd.int .i64) W A xs.length xs ∧ (0 < xs.length → ∃ ad, A = some ad ∧ B + 1 < ad.block)
theorem FarI.kp {W W' : World} {B : Nat} {A : Option Addr} {xs : List Int} (h : FarI W B A xs) (hk : Kp W W' B) : FarI W' B A xs := by
  refine ⟨?_, h.2⟩
  have hr := Kd.reads_of_C (enc := Value.int .i64) (d := (0 : Int)) (h1 := fun _ => rfl) h.1
  refine Kd.C_of_reads (d := (0 : Int)) (h1 := fun _ => rfl) ⟨hr.1, hr.2.1, fun h0 => ?_⟩
  obtain ⟨ad, hA, hc⟩ := hr.2.2 h0
  obtain ⟨ad', hA', hf⟩ := h.2 h0
  obtain rfl : ad = ad' := by rw [hA] at hA'; injection hA'
  refine ⟨ad, hA, fun j hj => ?_⟩
  have hcj := hc j hj
  have hb : (ad.add j).block = ad.block := by unfold Addr.add; split <;> rfl
  have hlt := World.block_lt_of_cell? W _ hcj
  rw [← hcj]
  have := hk.block (ad.add j).block hlt (by omega) (by omega)
  simp only [World.cell?, this]
/-- The best plan so far. -/
def BestAt (W : World) (B : Nat) (s : List Int × Int) : Prop := ∃ A c, Blk W B 27 #[.slice A s.1.length c] ∧ FarI W B A s.1 ∧ s.1.length ≤ c ∧ Blk W (B + 1) 3 #[.int .i64 s.2]
theorem BestAt.below {W W' : World} {B : Nat} {s : List Int × Int} (h : BestAt W B s) (hb : Below W.heap.size W W') : BestAt W' B s := by
  obtain ⟨A, c, h1, h2, h4, h3⟩ := h
  exact ⟨A, c, h1.below hb h1.lt, h2.kp (Kp.below hb B), h4, h3.below hb h3.lt⟩
theorem below_grown {w W W' : World} {row : Option Nat} (h : Below w.heap.size w W) (hg : W.grownBy W' row) (hr : ∀ k, row = some k → w.heap.size ≤ k) : Below w.heap.size w W' :=
  ⟨hg.os.trans h.os, hg.tape.trans h.tape, hg.output.trans h.output, Nat.le_trans h.size hg.size, fun k hk => (hg.block k (Nat.lt_of_lt_of_le hk h.size) (fun e => by have := hr k e.symm; omega)).trans (h.block k hk)⟩
set_option maxRecDepth 100000 in
set_option maxHeartbeats 16000000 in
theorem plans_any (A : Option Addr) (c : Nat) (st : List S24) (lot bound held : Int) (hok : HedgeOk st lot bound held) (B : Nat) (w0 : World) (hC : Kd.C k24 w0 A st.length st) (hB0 : w0.heap.size ≤ B) : ∀ (m : Nat) (ps : List Int) (A1 : Option Addr) (c1 : Nat) (b : Nat) (t : Int) (s : List Int × Int) (w : World),
    m + ps.length = st.length → b ≤ 50 → (ps.length = 0 → (b : Int) = held) → (0 < ps.length → ps.getD (ps.length - 1) 0 = b) → 0 ≤ t → t + 50 * m ≤ 2000 → Below w0.heap.size w0 w → FarI w B A1 ps → ps.length ≤ c1 → BestAt w B s →
    Calls Try.prog 68 #[.agg #[.slice A st.length c, .int .i64 lot, .int .i64 bound, .int .i64 held], .slice A1 ps.length c1, .int .i64 t, .int .i64 9, .pointer (some ⟨B, 0, none⟩), .pointer (some ⟨B + 1, 0, none⟩)] w fun e w' => e = .returned (.tuple #[]) ∧ BestAt w' B (planP st lot bound m ps b t s) ∧ Kp w w' B := by
  intro m
  induction m with
  | zero =>
    intro ps A1 c1 b t s w hm hb hb0 hb1 ht0 ht1 hL hF hc1 hS
    obtain ⟨A2, c2, s1, s2, s4, s3⟩ := hS
    have hl0 : ((ps.length : Int) == (st.length : Int)) = true := by simp; omega
    have s1' := s1.alloc (.cells (hedgeV A st.length c lot bound held) 87)
    have s3' := s3.alloc (.cells (hedgeV A st.length c lot bound held) 87)
    have h0 := blk_new w 87 (hedgeV A st.length c lot bound held)
    have q0 := hv0 h0
    simp only [hedgeV] at s1' s3' h0 q0
    have r3 := s3'.cell 0 rfl
    have f3 := s3'.frozen 0
    have f1 := s1'.frozen 0
    have r1 := s1'.cell 0 rfl
    have hB : Below w.heap.size w (w.alloc (.cells #[.slice A st.length c, .int .i64 lot, .int .i64 bound, .int .i64 held] 87)) := below_alloc (Below.refl _ _) _
    by_cases hlt : t < s.2
    · have HR : Hid (planP st lot bound 0 ps b t s = (ps, t)) := by show _ = _; rw [planP, if_pos hlt]
      go_enter Try.func68, Try.ntmps68
      go_wp2
      refine bodyPost_ret (v := .tuple #[]) (by simp [results, Try.results68]) rfl ⟨rfl, ?_, (Kp.below hB B).setCell _ (.inl rfl) _ |>.setCell _ (.inr rfl) _⟩
      rw [HR.out]
      have K1 := ((Kp.below hB B).setCell ⟨B, 0, none⟩ (.inl rfl) (.slice A1 ps.length c1)).setCell ⟨B + 1, 0, none⟩ (.inr rfl) (.int .i64 t)
      exact ⟨A1, c1, (s1'.set 0 _).far (by simp) _, hF.kp K1, hc1, (s3'.far (by simp) _).set 0 _⟩
    · have HR : Hid (planP st lot bound 0 ps b t s = s) := by show _ = _; rw [planP, if_neg hlt]
      go_enter Try.func68, Try.ntmps68
      go_wp2
      refine bodyPost_ret (v := .tuple #[]) (by simp [results, Try.results68]) rfl ⟨rfl, ?_, Kp.below hB B⟩
      rw [HR.out]
      exact ⟨A2, c2, s1', s2.kp (Kp.below hB B), s4, s3'⟩
  | succ m ih =>
    intro ps A1 c1 b t s w hm hb hb0 hb1 ht0 ht1 hL hF hc1 hS
    obtain ⟨d, hd⟩ : ∃ d, d = ps.length := ⟨_, rfl⟩
    have hdn : d < st.length := by omega
    have HD : Hid (st.length - (m + 1) = d) := by show _ = _; omega
    have hCw := Kd.C_below hC hL
    have hmax := Kd.C_max hC
    have hl0 : ((ps.length : Int) == (st.length : Int)) = false := by simp; omega
    have hBl : B + 1 < w.heap.size := by obtain ⟨_, _, _, _, _, h3⟩ := hS; exact h3.lt
    obtain ⟨ad, hA, p0, p1⟩ := at_T24 hCw d (by omega) (by omega)
    subst hA
    simp only [Int.toNat_natCast] at p0 p1
    rw [rd_T24_at st d hdn] at p0 p1
    have hG : st.getD d z24' = st[d] := by simp [List.getD_eq_getElem?_getD, List.getElem?_eq_getElem hdn]
    obtain ⟨x, hx⟩ : ∃ x, x = st[d] := ⟨_, rfl⟩
    rw [← hx] at p0 p1 hG
    have HG := Lib.hid hG
    have hxs := hok.stock st[d] (List.getElem_mem _)
    rw [← hx] at hxs
    clear hx hG
    have hl1 := hok.l1
    have hl2 := hok.l2
    have hbd0 := hok.b0
    have hbd1 := hok.b1
    have hfew := hok.few
    have hLa : Below w.heap.size w (w.alloc (.cells (hedgeV (some ad) st.length c lot bound held) 87)) := below_alloc (Below.refl _ _) _
    have h0 := blk_new w 87 (hedgeV (some ad) st.length c lot bound held)
    have q0 := hv0 h0
    have q3 := hv3 h0
    have p0' := pw_cell_below hLa p0
    have p1' := pw_cell_below hLa p1
    have W2 : ∀ (o1 o2 : Obj), Below w.heap.size w ((w.alloc o1).alloc o2) := fun o1 o2 => below_alloc (below_alloc (Below.refl _ _) _) _
    simp only [hedgeV] at q0 q3 p0' p1' hLa
    have hs2 := hS.below (W2 (.cells (hedgeV (some ad) st.length c lot bound held) 87) (.cells (rangeV x) 24))
    have hk2 := Kp.below (W2 (.cells (hedgeV (some ad) st.length c lot bound held) 87) (.cells (rangeV x) 24)) B
    have n2 : Blk ((w.alloc (.cells (hedgeV (some ad) st.length c lot bound held) 87)).alloc (.cells (rangeV x) 24)) w.heap.size 87 (hedgeV (some ad) st.length c lot bound held) := h0.alloc _
    have x2 : Blk ((w.alloc (.cells (hedgeV (some ad) st.length c lot bound held) 87)).alloc (.cells (rangeV x) 24)) (w.heap.size + 1) 24 (rangeV x) := blk_new' (by simp)
    subst hd
    have hzd0 : (0 : Int) ≤ (ps.length : Int) := by omega
    have hzd1 : (ps.length : Int) < (st.length : Int) := by omega
    by_cases hz : 0 < ps.length
    · have hz' : decide ((0 : Int) < (ps.length : Int)) = true := by simpa using hz
      have hz2 : decide (0 < ps.length) = true := by simpa using hz
      obtain ⟨ad1, hA1, r0⟩ := Kd.at_int hF.1 ((ps.length - 1 : Nat) : Int) (by omega) (by omega)
      rw [hA1]
      simp only [Int.toNat_natCast] at r0
      have e0 : rd ps ((ps.length - 1 : Nat) : Int) = (b : Int) := by rw [← hb1 hz]; simp [rd]
      rw [e0] at r0
      have r0' := pw_cell_below hLa r0
      have hw1 : IntKind.i64.wrap ((ps.length : Int) - 1) = (ps.length : Int) - 1 := IntWalk.i64_in _ (by omega)
      have hw2 : ((ps.length : Int) - 1).toNat = ps.length - 1 := by omega
      have hw3 : (1 : Int) ≤ (ps.length : Int) := by omega
      have hw4 : (ps.length : Int) - 1 < (ps.length : Int) := by omega
      clear hb0 hb1 hz e0
      go_enter Try.func68, Try.ntmps68
      go_wp2
      rw [← hA1]
      clear r0 r0' hA1 hw1 hw2 hw3 hw4 hz' hz2
      clear p0 p1 p0' p1' q0 q3 h0 hLa hCw hl0 hS W2
      simp only [hedgeV, rangeV] at hs2 hk2 n2 x2
      generalize ((w.alloc (.cells #[.slice (some ad) st.length c, .int .i64 lot, .int .i64 bound, .int .i64 held] 87)).alloc (.cells #[.int .i64 x.f0, .int .i64 x.f1] 24)) = W1 at *
      obtain ⟨bv, hbv⟩ : ∃ bv : Int, bv = (b : Int) := ⟨_, rfl⟩
      rw [← hbv]
      have HBV := Lib.hid hbv
      clear hbv
      obtain ⟨H, hH⟩ : ∃ H, H = w.heap.size := ⟨_, rfl⟩
      rw [← hH] at n2 x2 hBl
      rw [← hH]
      have HHW := Lib.hid hH
      clear hH
      have hHB : B < H := by omega
      have hHB1 : B + 1 < H := by omega
      go_loopw [14] (fun vi wr => ∃ k : Nat, k ≤ 10 ∧ vi = .int .i64 k ∧ BestAt wr B (planR st lot bound m ps b t s k) ∧ Kp w wr B ∧ Blk wr H 87 (hedgeV (some ad) st.length c lot bound held) ∧ Blk wr (H + 1) 24 (rangeV x)) (fun vi _ => 10 - (intOf vi).toNat)
      · refine ⟨0, by omega, rfl, ?_, hk2, n2, x2⟩
        show BestAt W1 B s
        exact hs2
      · clear hs2 hk2 n2 x2
        obtain ⟨k, hk, rfl, hS, hK, n2, x2⟩ := hrel
        have m0 := hv0 n2
        have m1 := hv1 n2
        have m2 := hv2 n2
        have m3 := hv3 n2
        have y0 : wr.cell? ⟨H + 1, 0, none⟩ = some (.int .i64 x.f0) := x2.cell 0 rfl
        have y1 : wr.cell? ⟨H + 1, 1, none⟩ = some (.int .i64 x.f1) := x2.cell 1 rfl
        by_cases hk10 : k < 10
        · have hk9 : (k : Int) ≤ 9 := by omega
          have hq0 : 0 ≤ lot * (k : Int) := Int.mul_nonneg (by omega) (by omega)
          have hq1 : lot * (k : Int) ≤ 1000000 * 9 := Int.mul_le_mul hl2 hk9 (by omega) (by omega)
          have HRS : Hid (planR st lot bound m ps b t s (k + 1) = if outB st lot bound (st.length - (m + 1)) k = true then planR st lot bound m ps b t s k else planP st lot bound m (ps ++ [(k : Int)]) k (t + distI b k) (planR st lot bound m ps b t s k)) := planR_succ st lot bound m ps b t s k
          have HOB : Hid (outB st lot bound (st.length - (m + 1)) k = (decide (x.f0 - lot * (k : Int) < -bound) || decide (bound < x.f1 - lot * (k : Int)))) := by
            show _ = _
            rw [HD.out, outB, expo0, expo1, HG.out]
          by_cases h1 : x.f1 - lot * (k : Int) ≤ bound
          · by_cases h2 : -bound ≤ x.f0 - lot * (k : Int)
            · have HE : Hid (planR st lot bound m ps b t s (k + 1) = planP st lot bound m (ps ++ [(k : Int)]) k (t + distI b k) (planR st lot bound m ps b t s k)) := by
                show _ = _
                rw [HRS.out, HOB.out, if_neg]
                simp; omega
              clear HRS HOB
              have hbv0 : 0 ≤ bv ∧ bv ≤ 50 := by have := HBV.out; omega
              have hb0' := hbv0.1
              have hb1' := hbv0.2
              clear hbv0
              have hps : ps.length ≤ 20 := by omega
              have hwr : B + 1 < wr.heap.size := by obtain ⟨_, _, _, _, _, h3⟩ := hS; exact h3.lt
              have hFr := hF.kp hK
              have HS : ∀ W', Kp wr W' B → (W'.cell? ⟨H, 0, none⟩ = some (.slice (some ad) st.length c) ∧ W'.cell? ⟨H, 1, none⟩ = some (.int .i64 lot) ∧ W'.cell? ⟨H, 2, none⟩ = some (.int .i64 bound) ∧ W'.cell? ⟨H, 3, none⟩ = some (.int .i64 held) ∧ Kp wr W' B) :=
                fun W' h => ⟨h.cell m0 (by dsimp only; omega) (by dsimp only; omega), h.cell m1 (by dsimp only; omega) (by dsimp only; omega), h.cell m2 (by dsimp only; omega) (by dsimp only; omega), h.cell m3 (by dsimp only; omega) (by dsimp only; omega), h⟩
              have hw1 : IntKind.i64.wrap ((k : Int) - bv) = (k : Int) - bv := IntWalk.i64_in _ (by omega)
              have hw2 : IntKind.i64.wrap (bv - (k : Int)) = bv - (k : Int) := IntWalk.i64_in _ (by omega)
              have hw3 : IntKind.i64.wrap (t + max ((k : Int) - bv) (bv - (k : Int))) = t + max ((k : Int) - bv) (bv - (k : Int)) := IntWalk.i64_in _ (by omega)
              have hdist : t + max ((k : Int) - bv) (bv - (k : Int)) = t + distI b k := by rw [HBV.out]; unfold distI; omega
              have hdle : 0 ≤ distI b k ∧ distI b k ≤ 50 := by unfold distI; omega
              have IH : ∀ (W : World) (g cap : Nat), Kp wr W B → W.ownsRow wr.heap.size 3 1 (.slice (some ⟨g, 0, none⟩) (ps.length + 1) cap) (ps.length + 1) (encs (Value.int .i64) ps ++ [Value.int .i64 (k : Int)]) → BestAt W B (planR st lot bound m ps b t s k) →
                  Calls Try.prog 68 #[.agg #[.slice (some ad) st.length c, .int .i64 lot, .int .i64 bound, .int .i64 held], .slice (some ⟨g, 0, none⟩) (ps.length + 1) cap, .int .i64 (t + max ((k : Int) - bv) (bv - (k : Int))), .int .i64 9, .pointer (some ⟨B, 0, none⟩), .pointer (some ⟨B + 1, 0, none⟩)] W fun e w' => e = .returned (.tuple #[]) ∧ BestAt w' B (planP st lot bound m (ps ++ [(k : Int)]) k (t + distI b k) (planR st lot bound m ps b t s k)) ∧ Kp W w' B := by
                intro W g cap hKW hO hSW
                have hlen : (ps ++ [(k : Int)]).length = ps.length + 1 := by simp
                replace hO : W.ownsRow wr.heap.size 3 1 (.slice (some ⟨g, 0, none⟩) (ps.length + 1) cap) (ps.length + 1) (encs (Value.int .i64) (ps ++ [(k : Int)])) := by simpa [encs] using hO
                have hR : Kd.R (Kd.int .i64) 3 W wr.heap.size (fun _ => True) (.slice (some ⟨g, 0, none⟩) (ps.length + 1) cap) (ps ++ [(k : Int)]) := Kd.R_of_own (by rw [hlen]; exact hO) (fun _ _ => trivial)
                obtain ⟨-, hcap, hCC⟩ := Kd.R_reads' hR
                have hg := own_base hO g rfl
                have hwr : B + 1 < wr.heap.size := by obtain ⟨_, _, _, _, _, h3⟩ := hS; exact h3.lt
                have := ih (ps ++ [(k : Int)]) (some ⟨g, 0, none⟩) cap k (t + distI b k) (planR st lot bound m ps b t s k) W (by rw [hlen]; omega) (by omega) (by rw [hlen]; omega) (fun _ => by rw [hlen]; simp) (by omega) (by push_cast at ht1; omega) ((hK.trans hKW).low hL hB0) ⟨hCC, fun _ => ⟨_, rfl, by dsimp only; omega⟩⟩ (by rw [hlen]; exact hcap) hSW
                rw [hlen, ← hdist] at this
                rw [← hdist]
                exact this
              obtain ⟨i3, j1, j2, j3, j4⟩ := info3'
              have HIH := Lib.hid IH
              have hInts := ints_self ps hps
              have HII := Lib.hid hInts
              clear hdist hdle IH hInts ih
              go_wp2
              go_region_held3 (fun w' => w'.cell? ⟨H, 0, none⟩ = some (.slice (some ad) st.length c) ∧ w'.cell? ⟨H, 1, none⟩ = some (.int .i64 lot) ∧ w'.cell? ⟨H, 2, none⟩ = some (.int .i64 bound) ∧ w'.cell? ⟨H, 3, none⟩ = some (.int .i64 held) ∧ Kp wr w' B)
                (first
                  | exact HS _ (Kp.below (below_drawn _) B)
                  | exact HS _ hKq
                  | exact HS _ hKg
                  | exact HS _ hKi
                  | exact HS _ (hKi.trans (Kp.below (below_alloc (Below.refl _ _) _) B))
                  | exact HS _ (Kp.below (below_alloc (below_drawn _) _) B)
                  | fail)
                (first
                  | (go_at_call 56; have hKv := (‹_ ∧ _ ∧ _ ∧ _ ∧ Kp wr _ B›.2.2.2.2); refine (swarfkit_Ints.calls A1 c1 ps ps _ (hFr.kp (‹_ ∧ _ ∧ _ ∧ _ ∧ Kp wr _ B›.2.2.2.2)).1 hc1 HII.out).mono ?_; rintro e w' ⟨v0, rfl, hR, hB⟩; have hO5 := own_low (Kd.own_of_R hR) hKv.size; have hKi := hKv.trans (Kp.below hB B))
                  | (go_at_call 68; have hKv := (‹_ ∧ _ ∧ _ ∧ _ ∧ Kp wr _ B›.2.2.2.2); refine (HIH.out _ _ _ hKv hown3 hbest3).mono ?_; rintro e w4 ⟨rfl, hS4, hK4⟩; have hKq := hKv.trans hK4)
                  | ((refine step_append_lies _ (by rfl) (.tmp 79) (.tmp 81) 27 (by rfl) wr.heap.size 3 i3 (.int .i64 0) 1 8 Try.underlying27 j1 j2 j3 j4 rfl (by omega) v0 ps.length (encs (Value.int .i64) ps) (by rfl) (by first | exact own_kept hO5 (below_alloc (Below.refl _ _) _) | exact hO5) _ 1 1 [.int .i64 (k : Int)] (by rfl) rfl (by first | exact new_cell _ _ | exact fun j u hu => pw_cell_below hB (new_cell _ _ j u hu)) (fun u hu => by cases hu with | head => rfl | tail _ h => cases h) (by omega) (by unfold maxLen; omega) (by omega) (‹_ ∧ _ ∧ _ ∧ _ ∧ Kp wr _ B›.2.2.2.2).size _ rfl ?_; intro g cap w3 hown3 hgrow hat hlt; have hKg : Kp wr w3 B := Kp.grown (‹_ ∧ _ ∧ _ ∧ _ ∧ Kp wr _ B›.2.2.2.2) hgrow (own_base hO5); have hbest3 : BestAt w3 B (planR st lot bound m ps b t s k) := hS.below (below_grown (by first | exact below_alloc ((below_drawn _).trans hB) _ | exact (below_alloc (below_drawn _) _).trans (hB.mono (below_alloc (below_drawn _) _).size)) hgrow (own_base hO5))))
                  | fail)
              all_goals go_wp2
              all_goals exact ⟨⟨k + 1, by omega, by push_cast; rfl, by rw [HE.out]; exact hS4, hK.trans hKq, n2.kp hKq (by omega) (by omega), x2.kp hKq (by omega) (by omega)⟩, by simp [intOf]; omega⟩
            · have HE : Hid (planR st lot bound m ps b t s (k + 1) = planR st lot bound m ps b t s k) := by
                show _ = _
                rw [HRS.out, HOB.out, if_pos]
                simp; omega
              clear HRS HOB
              go_wp2
              exact ⟨⟨k + 1, by omega, by push_cast; rfl, by rw [HE.out]; exact hS, hK, n2, x2⟩, by simp [intOf]; omega⟩
          · have HE : Hid (planR st lot bound m ps b t s (k + 1) = planR st lot bound m ps b t s k) := by
              show _ = _
              rw [HRS.out, HOB.out, if_pos]
              simp; omega
            clear HRS HOB
            go_wp2
            exact ⟨⟨k + 1, by omega, by push_cast; rfl, by rw [HE.out]; exact hS, hK, n2, x2⟩, by simp [intOf]; omega⟩
        · obtain rfl : k = 10 := by omega
          go_wp2
          go_end0
          exact ⟨rfl, hS, hK⟩
    · have hz' : decide ((0 : Int) < (ps.length : Int)) = false := by simpa using hz
      have hz2 : decide (0 < ps.length) = false := by simpa using hz
      have hhb := hb0 (by omega)
      have HHB := Lib.hid hhb
      clear hhb hb0 hb1 hz
      go_enter Try.func68, Try.ntmps68
      go_wp2
      clear hz' hz2
      clear p0 p1 p0' p1' q0 q3 h0 hLa hCw hl0 hS W2
      simp only [hedgeV, rangeV] at hs2 hk2 n2 x2
      generalize ((w.alloc (.cells #[.slice (some ad) st.length c, .int .i64 lot, .int .i64 bound, .int .i64 held] 87)).alloc (.cells #[.int .i64 x.f0, .int .i64 x.f1] 24)) = W1 at *
      obtain ⟨bv, hbv⟩ : ∃ bv : Int, bv = held := ⟨_, rfl⟩
      rw [← hbv]
      have HBV : Hid (bv = (b : Int)) := by show bv = (b : Int); rw [hbv, HHB.out]
      clear hbv HHB
      obtain ⟨H, hH⟩ : ∃ H, H = w.heap.size := ⟨_, rfl⟩
      rw [← hH] at n2 x2 hBl
      rw [← hH]
      have HHW := Lib.hid hH
      clear hH
      have hHB : B < H := by omega
      have hHB1 : B + 1 < H := by omega
      go_loopw [14] (fun vi wr => ∃ k : Nat, k ≤ 10 ∧ vi = .int .i64 k ∧ BestAt wr B (planR st lot bound m ps b t s k) ∧ Kp w wr B ∧ Blk wr H 87 (hedgeV (some ad) st.length c lot bound held) ∧ Blk wr (H + 1) 24 (rangeV x)) (fun vi _ => 10 - (intOf vi).toNat)
      · refine ⟨0, by omega, rfl, ?_, hk2, n2, x2⟩
        show BestAt W1 B s
        exact hs2
      · clear hs2 hk2 n2 x2
        obtain ⟨k, hk, rfl, hS, hK, n2, x2⟩ := hrel
        have m0 := hv0 n2
        have m1 := hv1 n2
        have m2 := hv2 n2
        have m3 := hv3 n2
        have y0 : wr.cell? ⟨H + 1, 0, none⟩ = some (.int .i64 x.f0) := x2.cell 0 rfl
        have y1 : wr.cell? ⟨H + 1, 1, none⟩ = some (.int .i64 x.f1) := x2.cell 1 rfl
        by_cases hk10 : k < 10
        · have hk9 : (k : Int) ≤ 9 := by omega
          have hq0 : 0 ≤ lot * (k : Int) := Int.mul_nonneg (by omega) (by omega)
          have hq1 : lot * (k : Int) ≤ 1000000 * 9 := Int.mul_le_mul hl2 hk9 (by omega) (by omega)
          have HRS : Hid (planR st lot bound m ps b t s (k + 1) = if outB st lot bound (st.length - (m + 1)) k = true then planR st lot bound m ps b t s k else planP st lot bound m (ps ++ [(k : Int)]) k (t + distI b k) (planR st lot bound m ps b t s k)) := planR_succ st lot bound m ps b t s k
          have HOB : Hid (outB st lot bound (st.length - (m + 1)) k = (decide (x.f0 - lot * (k : Int) < -bound) || decide (bound < x.f1 - lot * (k : Int)))) := by
            show _ = _
            rw [HD.out, outB, expo0, expo1, HG.out]
          by_cases h1 : x.f1 - lot * (k : Int) ≤ bound
          · by_cases h2 : -bound ≤ x.f0 - lot * (k : Int)
            · have HE : Hid (planR st lot bound m ps b t s (k + 1) = planP st lot bound m (ps ++ [(k : Int)]) k (t + distI b k) (planR st lot bound m ps b t s k)) := by
                show _ = _
                rw [HRS.out, HOB.out, if_neg]
                simp; omega
              clear HRS HOB
              have hbv0 : 0 ≤ bv ∧ bv ≤ 50 := by have := HBV.out; omega
              have hb0' := hbv0.1
              have hb1' := hbv0.2
              clear hbv0
              have hps : ps.length ≤ 20 := by omega
              have hwr : B + 1 < wr.heap.size := by obtain ⟨_, _, _, _, _, h3⟩ := hS; exact h3.lt
              have hFr := hF.kp hK
              have HS : ∀ W', Kp wr W' B → (W'.cell? ⟨H, 0, none⟩ = some (.slice (some ad) st.length c) ∧ W'.cell? ⟨H, 1, none⟩ = some (.int .i64 lot) ∧ W'.cell? ⟨H, 2, none⟩ = some (.int .i64 bound) ∧ W'.cell? ⟨H, 3, none⟩ = some (.int .i64 held) ∧ Kp wr W' B) :=
                fun W' h => ⟨h.cell m0 (by dsimp only; omega) (by dsimp only; omega), h.cell m1 (by dsimp only; omega) (by dsimp only; omega), h.cell m2 (by dsimp only; omega) (by dsimp only; omega), h.cell m3 (by dsimp only; omega) (by dsimp only; omega), h⟩
              have hw1 : IntKind.i64.wrap ((k : Int) - bv) = (k : Int) - bv := IntWalk.i64_in _ (by omega)
              have hw2 : IntKind.i64.wrap (bv - (k : Int)) = bv - (k : Int) := IntWalk.i64_in _ (by omega)
              have hw3 : IntKind.i64.wrap (t + max ((k : Int) - bv) (bv - (k : Int))) = t + max ((k : Int) - bv) (bv - (k : Int)) := IntWalk.i64_in _ (by omega)
              have hdist : t + max ((k : Int) - bv) (bv - (k : Int)) = t + distI b k := by rw [HBV.out]; unfold distI; omega
              have hdle : 0 ≤ distI b k ∧ distI b k ≤ 50 := by unfold distI; omega
              have IH : ∀ (W : World) (g cap : Nat), Kp wr W B → W.ownsRow wr.heap.size 3 1 (.slice (some ⟨g, 0, none⟩) (ps.length + 1) cap) (ps.length + 1) (encs (Value.int .i64) ps ++ [Value.int .i64 (k : Int)]) → BestAt W B (planR st lot bound m ps b t s k) →
                  Calls Try.prog 68 #[.agg #[.slice (some ad) st.length c, .int .i64 lot, .int .i64 bound, .int .i64 held], .slice (some ⟨g, 0, none⟩) (ps.length + 1) cap, .int .i64 (t + max ((k : Int) - bv) (bv - (k : Int))), .int .i64 9, .pointer (some ⟨B, 0, none⟩), .pointer (some ⟨B + 1, 0, none⟩)] W fun e w' => e = .returned (.tuple #[]) ∧ BestAt w' B (planP st lot bound m (ps ++ [(k : Int)]) k (t + distI b k) (planR st lot bound m ps b t s k)) ∧ Kp W w' B := by
                intro W g cap hKW hO hSW
                have hlen : (ps ++ [(k : Int)]).length = ps.length + 1 := by simp
                replace hO : W.ownsRow wr.heap.size 3 1 (.slice (some ⟨g, 0, none⟩) (ps.length + 1) cap) (ps.length + 1) (encs (Value.int .i64) (ps ++ [(k : Int)])) := by simpa [encs] using hO
                have hR : Kd.R (Kd.int .i64) 3 W wr.heap.size (fun _ => True) (.slice (some ⟨g, 0, none⟩) (ps.length + 1) cap) (ps ++ [(k : Int)]) := Kd.R_of_own (by rw [hlen]; exact hO) (fun _ _ => trivial)
                obtain ⟨-, hcap, hCC⟩ := Kd.R_reads' hR
                have hg := own_base hO g rfl
                have hwr : B + 1 < wr.heap.size := by obtain ⟨_, _, _, _, _, h3⟩ := hS; exact h3.lt
                have := ih (ps ++ [(k : Int)]) (some ⟨g, 0, none⟩) cap k (t + distI b k) (planR st lot bound m ps b t s k) W (by rw [hlen]; omega) (by omega) (by rw [hlen]; omega) (fun _ => by rw [hlen]; simp) (by omega) (by push_cast at ht1; omega) ((hK.trans hKW).low hL hB0) ⟨hCC, fun _ => ⟨_, rfl, by dsimp only; omega⟩⟩ (by rw [hlen]; exact hcap) hSW
                rw [hlen, ← hdist] at this
                rw [← hdist]
                exact this
              obtain ⟨i3, j1, j2, j3, j4⟩ := info3'
              have HIH := Lib.hid IH
              have hInts := ints_self ps hps
              have HII := Lib.hid hInts
              clear hdist hdle IH hInts ih
              go_wp2
              go_region_held3 (fun w' => w'.cell? ⟨H, 0, none⟩ = some (.slice (some ad) st.length c) ∧ w'.cell? ⟨H, 1, none⟩ = some (.int .i64 lot) ∧ w'.cell? ⟨H, 2, none⟩ = some (.int .i64 bound) ∧ w'.cell? ⟨H, 3, none⟩ = some (.int .i64 held) ∧ Kp wr w' B)
                (first
                  | exact HS _ (Kp.below (below_drawn _) B)
                  | exact HS _ hKq
                  | exact HS _ hKg
                  | exact HS _ hKi
                  | exact HS _ (hKi.trans (Kp.below (below_alloc (Below.refl _ _) _) B))
                  | exact HS _ (Kp.below (below_alloc (below_drawn _) _) B)
                  | fail)
                (first
                  | (go_at_call 56; have hKv := (‹_ ∧ _ ∧ _ ∧ _ ∧ Kp wr _ B›.2.2.2.2); refine (swarfkit_Ints.calls A1 c1 ps ps _ (hFr.kp (‹_ ∧ _ ∧ _ ∧ _ ∧ Kp wr _ B›.2.2.2.2)).1 hc1 HII.out).mono ?_; rintro e w' ⟨v0, rfl, hR, hB⟩; have hO5 := own_low (Kd.own_of_R hR) hKv.size; have hKi := hKv.trans (Kp.below hB B))
                  | (go_at_call 68; have hKv := (‹_ ∧ _ ∧ _ ∧ _ ∧ Kp wr _ B›.2.2.2.2); refine (HIH.out _ _ _ hKv hown3 hbest3).mono ?_; rintro e w4 ⟨rfl, hS4, hK4⟩; have hKq := hKv.trans hK4)
                  | ((refine step_append_lies _ (by rfl) (.tmp 79) (.tmp 81) 27 (by rfl) wr.heap.size 3 i3 (.int .i64 0) 1 8 Try.underlying27 j1 j2 j3 j4 rfl (by omega) v0 ps.length (encs (Value.int .i64) ps) (by rfl) (by first | exact own_kept hO5 (below_alloc (Below.refl _ _) _) | exact hO5) _ 1 1 [.int .i64 (k : Int)] (by rfl) rfl (by first | exact new_cell _ _ | exact fun j u hu => pw_cell_below hB (new_cell _ _ j u hu)) (fun u hu => by cases hu with | head => rfl | tail _ h => cases h) (by omega) (by unfold maxLen; omega) (by omega) (‹_ ∧ _ ∧ _ ∧ _ ∧ Kp wr _ B›.2.2.2.2).size _ rfl ?_; intro g cap w3 hown3 hgrow hat hlt; have hKg : Kp wr w3 B := Kp.grown (‹_ ∧ _ ∧ _ ∧ _ ∧ Kp wr _ B›.2.2.2.2) hgrow (own_base hO5); have hbest3 : BestAt w3 B (planR st lot bound m ps b t s k) := hS.below (below_grown (by first | exact below_alloc ((below_drawn _).trans hB) _ | exact (below_alloc (below_drawn _) _).trans (hB.mono (below_alloc (below_drawn _) _).size)) hgrow (own_base hO5))))
                  | fail)
              all_goals go_wp2
              all_goals exact ⟨⟨k + 1, by omega, by push_cast; rfl, by rw [HE.out]; exact hS4, hK.trans hKq, n2.kp hKq (by omega) (by omega), x2.kp hKq (by omega) (by omega)⟩, by simp [intOf]; omega⟩
            · have HE : Hid (planR st lot bound m ps b t s (k + 1) = planR st lot bound m ps b t s k) := by
                show _ = _
                rw [HRS.out, HOB.out, if_pos]
                simp; omega
              clear HRS HOB
              go_wp2
              exact ⟨⟨k + 1, by omega, by push_cast; rfl, by rw [HE.out]; exact hS, hK, n2, x2⟩, by simp [intOf]; omega⟩
          · have HE : Hid (planR st lot bound m ps b t s (k + 1) = planR st lot bound m ps b t s k) := by
              show _ = _
              rw [HRS.out, HOB.out, if_pos]
              simp; omega
            clear HRS HOB
            go_wp2
            exact ⟨⟨k + 1, by omega, by push_cast; rfl, by rw [HE.out]; exact hS, hK, n2, x2⟩, by simp [intOf]; omega⟩
        · obtain rfl : k = 10 := by omega
          go_wp2
          go_end0
          exact ⟨rfl, hS, hK⟩
end Go.Proofs.Ytkdlbocjgbmbdaa.Print

namespace Go.Proofs.Ytkdlbocjgbmbdaa.Print
open Go.RowKit Go.Shelf Go.Proofs.YtkdlbocjgbmbdaaW.PrintWords
set_option linter.unusedVariables false
section
variable (st : List S24) (lot bound : Int)
/-- How a plan goes on. -/
def tailK : Nat → Nat → List Int
  | 0, _ => []
  | m + 1, b => (lotsF st lot bound (st.length - (m + 1)) b : Int) :: tailK m (lotsF st lot bound (st.length - (m + 1)) b)
end
section
variable {st : List S24} {lot bound : Int}
theorem planK_tail (held : Nat) : ∀ m d, m + d = st.length → (planK st lot bound held d).1 ++ tailK st lot bound m (planK st lot bound held d).2 = (planK st lot bound held st.length).1
  | 0, d, h => by
    obtain rfl : d = st.length := by omega
    simp [tailK]
  | m + 1, d, h => by
    rw [← planK_tail held m (d + 1) (by omega)]
    have e : st.length - (m + 1) = d := by omega
    simp only [tailK, e, planK, List.append_assoc, List.singleton_append]
/-- Beyond so many lots no day is below its bound. -/
def Few (st : List S24) (lot bound : Int) : Prop := ∀ d l, d < st.length → 10 ≤ l → l < 51 → outB st lot bound d l = true
theorem bestF_few {d : Nat} {next : Nat → Int} (h : ∀ l, 0 ≤ next l) (b : Nat) (hf : ∀ l, 10 ≤ l → l < 51 → outB st lot bound d l = true) : ∀ k, 10 + k ≤ 51 → bestF st lot bound d next b (10 + k) = bestF st lot bound d next b 10
  | 0, _ => rfl
  | k + 1, hk => by
    have h1 := bestF_bounds (st := st) (lot := lot) (bound := bound) (d := d) h b 10
    rw [show 10 + (k + 1) = (10 + k) + 1 from rfl, bestF, bestF_few h b hf k (by omega), costG, if_pos (hf (10 + k) (by omega) (by omega))]
    omega
/-- What going through all plans keeps. -/
def goesOn (st : List S24) (lot bound : Int) (m : Nat) (ps : List Int) (b : Nat) (t : Int) (s : List Int × Int) : List Int × Int :=
  if t + restF st lot bound m b < s.2 then (ps ++ tailK st lot bound m b, t + restF st lot bound m b) else s
theorem planP_eq (hfew : Few st lot bound) : ∀ m (ps : List Int) b t s, m ≤ st.length → 0 ≤ t → s.2 ≤ never → planP st lot bound m ps b t s = goesOn st lot bound m ps b t s
  | 0, ps, b, t, s, _, _, _ => by
    simp only [planP, goesOn, restF, tailK, List.append_nil, Int.add_zero]
  | m + 1, ps, b, t, s, hm, ht, hs => by
    have IH := planP_eq hfew m
    obtain ⟨d, hd⟩ : ∃ d, d = st.length - (m + 1) := ⟨_, rfl⟩
    have hn : ∀ l, 0 ≤ restF st lot bound m l := fun l => (restF_bounds m l).1
    have key : ∀ k, (t + bestF st lot bound d (restF st lot bound m) b k < s.2 → ∃ l, l < k ∧ costG st lot bound d (restF st lot bound m) b l = bestF st lot bound d (restF st lot bound m) b k ∧
        (∀ j, j < l → bestF st lot bound d (restF st lot bound m) b k < costG st lot bound d (restF st lot bound m) b j) ∧
        planR st lot bound m ps b t s k = (ps ++ (l : Int) :: tailK st lot bound m l, t + bestF st lot bound d (restF st lot bound m) b k)) ∧
        (s.2 ≤ t + bestF st lot bound d (restF st lot bound m) b k → planR st lot bound m ps b t s k = s) := by
      intro k
      induction k with
      | zero =>
        refine ⟨fun h => ?_, fun _ => rfl⟩
        simp only [bestF] at h
        omega
      | succ k ih =>
        have hle := bestF_bounds (st := st) (lot := lot) (bound := bound) (d := d) hn b k
        rw [planR_succ, ← hd]
        by_cases ho : outB st lot bound d k = true
        · have hb : bestF st lot bound d (restF st lot bound m) b (k + 1) = bestF st lot bound d (restF st lot bound m) b k := by
            rw [bestF, costG, if_pos ho]; omega
          rw [if_pos ho, hb]
          refine ⟨fun h => ?_, ih.2⟩
          obtain ⟨l, h1, h2⟩ := ih.1 h
          exact ⟨l, by omega, h2⟩
        · have hc : costG st lot bound d (restF st lot bound m) b k = min never (distI b k + restF st lot bound m k) := by rw [costG, if_neg ho]
          have hdn := distI_nonneg b k
          have hnk := hn k
          rw [if_neg ho, bestF]
          by_cases hlt : t + bestF st lot bound d (restF st lot bound m) b k < s.2
          · obtain ⟨l, h1, h2, h3, h4⟩ := ih.1 hlt
            rw [h4, IH _ k (t + distI b k) _ (by omega) (by omega) (by dsimp only; omega), goesOn]
            dsimp only
            by_cases hnew : t + distI b k + restF st lot bound m k < t + bestF st lot bound d (restF st lot bound m) b k
            · rw [if_pos hnew]
              have hmn : min (bestF st lot bound d (restF st lot bound m) b k) (costG st lot bound d (restF st lot bound m) b k) = distI b k + restF st lot bound m k := by rw [hc]; omega
              rw [hmn]
              refine ⟨fun _ => ⟨k, by omega, by rw [hc]; omega, fun j hj => ?_, ?_⟩, fun h => by omega⟩
              · have := bestF_le (st := st) (lot := lot) (bound := bound) (d := d) (next := restF st lot bound m) (b := b) k j hj
                omega
              · rw [List.append_assoc, List.singleton_append, ← Int.add_assoc]
            · rw [if_neg hnew]
              have hmn : min (bestF st lot bound d (restF st lot bound m) b k) (costG st lot bound d (restF st lot bound m) b k) = bestF st lot bound d (restF st lot bound m) b k := by rw [hc]; omega
              rw [hmn]
              exact ⟨fun _ => ⟨l, by omega, h2, h3, rfl⟩, fun h => by omega⟩
          · rw [ih.2 (by omega), IH _ k (t + distI b k) s (by omega) (by omega) hs, goesOn]
            by_cases hnew : t + distI b k + restF st lot bound m k < s.2
            · rw [if_pos hnew]
              have hmn : min (bestF st lot bound d (restF st lot bound m) b k) (costG st lot bound d (restF st lot bound m) b k) = distI b k + restF st lot bound m k := by rw [hc]; omega
              rw [hmn]
              refine ⟨fun _ => ⟨k, by omega, by rw [hc]; omega, fun j hj => ?_, ?_⟩, fun h => by omega⟩
              · have := bestF_le (st := st) (lot := lot) (bound := bound) (d := d) (next := restF st lot bound m) (b := b) k j hj
                omega
              · rw [List.append_assoc, List.singleton_append, ← Int.add_assoc]
            · rw [if_neg hnew]
              exact ⟨fun h => by rw [hc] at h; omega, fun _ => rfl⟩
    have hr : restF st lot bound (m + 1) b = bestF st lot bound d (restF st lot bound m) b 10 := by
      rw [restF, ← hd]
      exact bestF_few hn b (fun l h1 h2 => hfew d l (by omega) h1 h2) 41 (by omega)
    show planR st lot bound m ps b t s 10 = _
    rw [goesOn, hr]
    by_cases hlt : t + bestF st lot bound d (restF st lot bound m) b 10 < s.2
    · obtain ⟨l, h1, h2, h3, h4⟩ := (key 10).1 hlt
      rw [h4, if_pos hlt]
      have hdm : st.length - d = m + 1 := by omega
      have hdm1 : st.length - (d + 1) = m := by omega
      have hspec := lotsF_spec (st := st) (lot := lot) (bound := bound) (d := d) (b := b) (by omega) (by rw [hdm, hr]; omega)
      rw [hdm, hdm1, hr] at hspec
      obtain ⟨g1, g2, g3, g4⟩ := hspec
      have hl : lotsF st lot bound d b = l := by
        rcases Nat.lt_trichotomy (lotsF st lot bound d b) l with h | h | h
        · have := h3 _ h; omega
        · exact h
        · exact absurd h2 (g3 l h)
      simp only [tailK]
      rw [← hd, hl]
    · rw [if_neg hlt]
      exact (key 10).2 (by omega)
/-- All plans, from the first day on. -/
theorem planP_top (hfew : Few st lot bound) (held : Nat) : planP st lot bound st.length [] held 0 ([], never) =
    if restF st lot bound st.length held < never then ((planK st lot bound held st.length).1, restF st lot bound st.length held) else ([], never) := by
  rw [planP_eq hfew _ _ _ _ _ (Nat.le_refl _) (by omega) (by omega), goesOn]
  have h := planK_tail (st := st) (lot := lot) (bound := bound) held st.length 0 (by omega)
  simp only [planK, List.nil_append] at h
  simp only [Int.zero_add, List.nil_append, h]
theorem planK_getD {held : Nat} : ∀ n d, d < n → (planK st lot bound held n).1.getD d 0 = (lotsF st lot bound d (planK st lot bound held d).2 : Int)
  | n + 1, d, h => by
    have hl := planK_len (st := st) (lot := lot) (bound := bound) held n
    simp only [planK]
    rcases Nat.lt_or_ge d n with h' | h'
    · rw [← planK_getD n d h']
      simp [List.getD_eq_getElem?_getD, List.getElem?_append_left, hl, h']
    · obtain rfl : d = n := by omega
      simp [List.getD_eq_getElem?_getD, List.getElem?_append_right, hl]
theorem planK_in {held : Nat} (hh : held < 51) (h : restF st lot bound st.length held < never) (d : Nat) (hd : d < st.length) :
    ∃ l : Nat, l < 51 ∧ (planK st lot bound held st.length).1.getD d 0 = (l : Int) ∧ outB st lot bound d l = false := by
  have h1 := planK_ok hh h d (by omega)
  have h2 := lotsF_spec hd h1.2
  refine ⟨_, h2.1, planK_getD _ d hd, ?_⟩
  have h3 := h2.2.1
  cases ho : outB st lot bound d (lotsF st lot bound d (planK st lot bound held d).2) with
  | false => rfl
  | true => rw [costG, if_pos ho] at h3; have := h1.2; omega
theorem badLot_planK {held : Nat} (hh : held < 51) (h : restF st lot bound st.length held < never) : badLot (planK st lot bound held st.length).1 = false := by
  rw [badLot, List.any_eq_false]
  intro x hx
  obtain ⟨d, hd, rfl⟩ := List.getElem_of_mem hx
  rw [planK_len] at hd
  obtain ⟨l, h1, h2, h3⟩ := planK_in hh h d hd
  have e : (planK st lot bound held st.length).1[d] = (l : Int) := by
    rw [← h2, List.getD_eq_getElem?_getD, List.getElem?_eq_getElem (by rw [planK_len]; exact hd), Option.getD_some]
  rw [e]
  simp [inB]
  omega
theorem exposL_getD (plan : List Int) : ∀ n d, d < n → (exposL st lot plan n).getD d z24' = ⟨expo0 st lot d (plan.getD d 0), expo1 st lot d (plan.getD d 0)⟩
  | n + 1, d, h => by
    have hl := exposL_len st lot plan n
    simp only [exposL]
    rcases Nat.lt_or_ge d n with h' | h'
    · rw [← exposL_getD plan n d h']
      simp only [List.getD_eq_getElem?_getD]
      rw [List.getElem?_append_left (by omega)]
    · obtain rfl : d = n := by omega
      simp only [List.getD_eq_getElem?_getD]
      rw [List.getElem?_append_right (by omega), hl]
      simp
end
end Go.Proofs.Ytkdlbocjgbmbdaa.Print

namespace Go.Proofs.Ytkdlbocjgbmbdaa.Pure
open Go.RowKit Go.Proofs.Ytkdlbocjgbmbdaa.Print Go.Proofs.YtkdlbocjgbmbdaaW.PrintWords Go.Proofs.YtkdlbocjgbmbdaaW.PrintLast
/-- A hedge made of numbers. -/
structure HedgeMade (st : List S24) (lot bound held : Int) : Prop where
  hlot : 1 ≤ lot ∧ lot ≤ 9
  hheld : 0 ≤ held ∧ held ≤ 5
  hbound : 0 ≤ bound ∧ bound ≤ 2 * lot
  stock : ∀ x ∈ st, 0 ≤ x.f0 ∧ x.f0 ≤ 5 * lot ∧ x.f0 ≤ x.f1 ∧ x.f1 ≤ x.f0 + bound
theorem hedgeOf_l0 (lot bound held : Int) (hl : 1 ≤ lot ∧ lot ≤ 9) (hb : 0 ≤ bound ∧ bound ≤ 2 * lot) : ∀ (i : Nat) (k : Nat) (s : Int) (st : List S24), i < k → i + st.length ≤ 4 → (∀ x ∈ st, 0 ≤ x.f0 ∧ x.f0 ≤ 5 * lot ∧ x.f0 ≤ x.f1 ∧ x.f1 ≤ x.f0 + bound) →
    ∃ r s', swarfkit_HedgeOf.l0 k 5 (i : Int) s st lot bound held = some (r, lot, bound, held, s') ∧ r.length = i + st.length ∧ ∀ x ∈ r, 0 ≤ x.f0 ∧ x.f0 ≤ 5 * lot ∧ x.f0 ≤ x.f1 ∧ x.f1 ≤ x.f0 + bound
  | 0, k + 1, s, st, _, _, h => by
    rw [swarfkit_HedgeOf.l0, if_neg (by omega)]
    exact ⟨st, s, rfl, by omega, h⟩
  | i + 1, k + 1, s, st, hk, hn, h => by
    rw [swarfkit_HedgeOf.l0, if_pos (by omega)]
    rw [w64 (lot * 5) (by omega), w64 (lot * 5 + 1) (by omega), w64 (bound + 1) (by omega)]
    obtain ⟨a, s1, e1, a0, -, a1⟩ := below_some s (lot * 5 + 1) (by omega)
    have ha := a1 (by omega)
    rw [e1, Option.bind_some]
    obtain ⟨b, s2, e2, b0, b1, b2⟩ := below_some s1 (bound + 1) (by omega)
    rw [e2, Option.bind_some]
    have hb' : b ≤ bound := by
      by_cases h2 : 2 ≤ bound + 1
      · have := b2 h2; omega
      · have := b1 (by omega); omega
    dsimp only
    rw [if_pos (by omega), w64 (a + b) (by omega), w64 _ (by omega), show ((i + 1 : Nat) : Int) - 1 = (i : Int) by omega]
    obtain ⟨r, s', hr, hlen, hall⟩ := hedgeOf_l0 lot bound held hl hb i k s2 (st ++ [⟨a, a + b⟩]) (by omega) (by simp; omega) (fun x hx => by
      rcases List.mem_append.1 hx with hx | hx
      · exact h x hx
      · obtain rfl := List.mem_singleton.1 hx
        dsimp only
        omega)
    exact ⟨r, s', hr, by rw [hlen]; simp; omega, hall⟩
theorem hedgeOf_some (s : Int) (k : Nat) (hk : 5 ≤ k) : ∃ st lot bound held s', swarfkit_HedgeOf.f k s 4 5 = some (st, lot, bound, held, s') ∧ HedgeMade st lot bound held ∧ 1 ≤ st.length ∧ st.length ≤ 4 := by
  unfold swarfkit_HedgeOf.f
  obtain ⟨lot, s1, e1, a0, a1, -⟩ := between_some s 1 9 (by omega) (by omega)
  have ha := a1 (by omega)
  rw [e1, Option.bind_some]
  rw [w64 ((5 : Int) + 1) (by omega)]
  obtain ⟨held, s2, e2, b0, -, b1⟩ := below_some s1 (5 + 1) (by omega)
  have hb := b1 (by omega)
  rw [e2, Option.bind_some]
  have ht : Int.tdiv lot 2 = lot / 2 := Int.tdiv_eq_ediv_of_nonneg (by omega)
  dsimp only
  rw [ht, w64 (lot / 2) (by omega), w64 (2 * lot) (by omega)]
  obtain ⟨bound, s3, e3, c0, c1, -⟩ := between_some s2 (lot / 2) (2 * lot) (by omega) (by omega)
  have hc := c1 (by omega)
  rw [e3, Option.bind_some]
  obtain ⟨n, s4, e4, d0, d1, -⟩ := between_some s3 1 4 (by omega) (by omega)
  have hd := d1 (by omega)
  rw [e4, Option.bind_some]
  obtain ⟨m, rfl⟩ : ∃ m : Nat, n = m := ⟨n.toNat, by omega⟩
  obtain ⟨r, s', hr, hlen, hall⟩ := hedgeOf_l0 lot bound held ⟨a0, ha⟩ (by omega) m k s4 [] (by omega) (by simp; omega) (fun x hx => by cases hx)
  refine ⟨r, lot, bound, held, s', hr, ⟨⟨a0, ha⟩, by omega, by omega, hall⟩, ?_, ?_⟩
  · rw [hlen]; simp; omega
  · rw [hlen]; simp; omega
theorem HedgeMade.ok {st : List S24} {lot bound held : Int} (h : HedgeMade st lot bound held) (h1 : 1 ≤ st.length) (h2 : st.length ≤ 4) : HedgeOk st lot bound held :=
  ⟨by omega, by omega, fun x hx => by have := h.stock x hx; have := h.hlot; have := h.hbound; omega, h.hlot.1, by have := h.hlot; omega, h.hbound.1, by have := h.hlot; have := h.hbound; omega, h.hheld.1, by have := h.hheld; omega⟩
theorem HedgeMade.few {st : List S24} {lot bound held : Int} (h : HedgeMade st lot bound held) : Few st lot bound := fun d l hd h1 h2 => by
  have h3 := h.stock (st.getD d z24') (by rw [List.getD_eq_getElem?_getD, List.getElem?_eq_getElem hd]; exact List.getElem_mem hd)
  have h4 := h.hbound
  have h5 := h.hlot
  have h6 : lot * 10 ≤ lot * (l : Int) := Int.mul_le_mul_of_nonneg_left (by omega) (by omega)
  have : expo0 st lot d l < -bound := by unfold expo0; omega
  simp [outB, this]
theorem hedgeE_of {st : List S24} {lot bound held : Int} (h : HedgeOk st lot bound held) : hedgeE st lot bound held = 0 := by
  have hin : ∀ x a b : Int, a ≤ x → x ≤ b → inB x a b = true := fun x a b h1 h2 => by simp [inB]; omega
  have h1 := h.ne
  have h2 := h.few
  have hs : stocksE st = 0 := by
    rw [stocksE]
    refine firstE_no _ _ fun k hk => ?_
    have h3 := h.stock (st.getD k z24') (by rw [List.getD_eq_getElem?_getD, List.getElem?_eq_getElem hk]; exact List.getElem_mem hk)
    rw [stockE, hin _ _ _ h3.1 (by omega), if_neg (by simp), hin _ _ _ (by omega) h3.2.2, if_neg (by simp), if_neg (by omega)]
  rw [hedgeE, if_neg (by omega), if_neg (by omega), hs, if_neg (by omega), lotsE, hin _ _ _ h.l1 h.l2, if_neg (by simp), hin _ _ _ h.b0 h.b1, if_neg (by simp), hin _ _ _ h.h0 h.h1, if_neg (by simp)]
end Go.Proofs.Ytkdlbocjgbmbdaa.Pure

namespace Go.Proofs.Ytkdlbocjgbmbdaa.Print
open Go.RowKit Go.Shelf Go.Proofs.YtkdlbocjgbmbdaaW.PrintWords
set_option linter.unusedVariables false
attribute [local go_sem] Oper.semAt_some
attribute [local go_sem] wide_fn wide_asked
theorem run_index134 (xs : List Bool) (k : Int) (h0 : 0 ≤ k) (h1 : k < 8) (w : World) : (Instr.index 134 (.agg (boolCells xs)) (.int .i64 k)).run Try.prog w = .ok (.agg (boolCells ((xs.drop (k.toNat * 8)).take 8))) w := by
  unfold Instr.index
  simp only [asIntOf, Sem.run_bind, Sem.run_pure, Result.andThen_ok, run_underlying Try.underlying134, siz132]
  rw [if_pos ⟨h0, h1⟩]
  simp only [Sem.run_bind, siz132, Result.andThen_ok]
  exact part132 xs k.toNat w
theorem run_index132 (xs : List Bool) (hx : xs.length = 8) (k : Int) (h0 : 0 ≤ k) (h1 : k < 8) (w : World) : (Instr.index 132 (.agg (boolCells xs)) (.int .i64 k)).run Try.prog w = .ok (.bool (xs.getD k.toNat false)) w := by
  unfold Instr.index
  simp only [asIntOf, Sem.run_bind, Sem.run_pure, Result.andThen_ok, run_underlying Try.underlying132, siz4]
  rw [if_pos ⟨h0, h1⟩]
  simp only [Sem.run_bind, siz4, Result.andThen_ok]
  exact part4 xs k.toNat (by omega) w
section
variable {ops : Array Oper} {rest : List Oper} {o : Oper} {a : Act} {Q : Exit → Act → World → Prop} {W : World}
theorem ev_index134 (hgd : o.guard = none) (x ix : Operand) (ho : o.op = .index 134 x ix) {xs : List Bool} {k : Int} (hx : a.eval x = .agg (boolCells xs)) (hk : a.eval ix = .int .i64 k) (h0 : 0 ≤ k) (h1 : k < 8) (h : wpList Try.prog ops Q rest (a.put o.dst (.agg (boolCells ((xs.drop (k.toNat * 8)).take 8)))) W) : wpList Try.prog ops Q (o :: rest) a W := by
  refine wpList_plain hgd fun K hK => ?_
  unfold Oper.wp execOp
  simp only [ho, hx, hk, Sem.run_bind, run_index134 xs k h0 h1, Result.andThen_ok, Sem.run_pure]
  exact hK _ _ h
theorem ev_index132 (hgd : o.guard = none) (x ix : Operand) (ho : o.op = .index 132 x ix) {xs : List Bool} {k : Int} (hx : a.eval x = .agg (boolCells xs)) (hl : xs.length = 8) (hk : a.eval ix = .int .i64 k) (h0 : 0 ≤ k) (h1 : k < 8) (h : wpList Try.prog ops Q rest (a.put o.dst (.bool (xs.getD k.toNat false))) W) : wpList Try.prog ops Q (o :: rest) a W := by
  refine wpList_plain hgd fun K hK => ?_
  unfold Oper.wp execOp
  simp only [ho, hx, hk, Sem.run_bind, run_index132 xs hl k h0 h1, Result.andThen_ok, Sem.run_pure]
  exact hK _ _ h
end
def tieAt (xs : List Bool) (a b : Int) : Bool := xs.getD (a.toNat * 8 + b.toNat) false
theorem row_at {xs : List Bool} {a b : Int} (hb : b.toNat < 8) : ((xs.drop (a.toNat * 8)).take 8).getD b.toNat false = tieAt xs a b := by
  simp only [tieAt, List.getD_eq_getElem?_getD]
  rw [List.getElem?_take, if_pos hb, List.getElem?_drop]
theorem row_len {xs : List Bool} (h : xs.length = 64) {a : Int} (ha : a.toNat < 8) : ((xs.drop (a.toNat * 8)).take 8).length = 8 := by simp; omega
def sameR (names limit window : Int) (ls : List S84) (ds : List S61) (a b : Int) : Int × Int :=
  if tillE names limit window ls ds ≠ 0 then (0, tillE names limit window ls ds) else if inB a 0 (names - 1) = false then (0, 3) else if inB b 0 (names - 1) = false then (0, 3)
  else if tieAt (tiesL false ls) a b = true then (1, 0) else if tieAt (tiesL true ls) a b = true then (3, 0) else (2, 0)
set_option maxRecDepth 100000 in
set_option maxHeartbeats 8000000 in
theorem same_any (names limit window : Int) (A0 : Option Addr) (c0 : Nat) (ls : List S84) (A1 : Option Addr) (c1 : Nat) (ds : List S61) (a b : Int) (w : World)
    (hl : Kd.C k84 w A0 ls.length ls) (hlc : ls.length ≤ c0) (hd : Kd.C k61 w A1 ds.length ds) :
    Calls Try.prog 69 #[.agg #[.int .i64 names, .int .i64 limit, .int .i64 window, .slice A0 ls.length c0, .slice A1 ds.length c1], .int .i64 a, .int .i64 b] w fun e w' =>
      e = .returned (.tuple #[.int .i64 (sameR names limit window ls ds a b).1, .int .i64 (sameR names limit window ls ds a b).2]) ∧ Below w.heap.size w w' := by
  obtain ⟨t, ht⟩ : ∃ t, t = tillE names limit window ls ds := ⟨_, rfl⟩
  obtain ⟨r, hr⟩ : ∃ r, r = sameR names limit window ls ds a b := ⟨_, rfl⟩
  have HT : Hid (t = tillE names limit window ls ds) := ht
  have hL : Below w.heap.size w (w.alloc (.cells #[.int .i64 names, .int .i64 limit, .int .i64 window, .slice A0 ls.length c0, .slice A1 ds.length c1] 48)) := below_alloc (Below.refl _ _) _
  rw [← hr]
  by_cases h0 : t = 0
  · have hok : TillOk names limit window ls ds := tillE_ok (by rw [← ht]; exact h0)
    rw [sameR, ← ht, if_neg (by simpa using h0)] at hr
    clear ht
    have hn1 := hok.n1
    have hn8 := hok.n8
    cases ha : inB a 0 (names - 1) with
    | false =>
      rw [if_pos ha] at hr
      subst hr
      go_enter Try.func69, Try.ntmps69
      go_wp2_with (first
        | (go_at_call 73; refine (check73_any names limit window A0 c0 ls A1 c1 ds _ (Kd.C_below hl hL) hlc (Kd.C_below hd hL)).mono ?_; rintro e w1 ⟨rfl, hB⟩; rw [← HT.out, h0]; have b0 : Blk w1 w.heap.size 48 #[.int .i64 names, .int .i64 limit, .int .i64 window, .slice A0 ls.length c0, .slice A1 ds.length c1] := (blk_new w 48 _).below hB (by simp); have d0 := b0.cell 0 rfl; have hB1 : Below w.heap.size w w1 := hL.trans (hB.mono (by simp)))
        | (go_at_call 81; refine (in_any _ _ _ _).mono ?_; rintro e w' ⟨rfl, rfl⟩))
      go_ret2
      exact ⟨rfl, hB1⟩
    | true =>
      cases hb : inB b 0 (names - 1) with
      | false =>
        rw [ha, if_neg (by simp), if_pos hb] at hr
        subst hr
        go_enter Try.func69, Try.ntmps69
        go_wp2_with (first
          | (go_at_call 73; refine (check73_any names limit window A0 c0 ls A1 c1 ds _ (Kd.C_below hl hL) hlc (Kd.C_below hd hL)).mono ?_; rintro e w1 ⟨rfl, hB⟩; rw [← HT.out, h0]; have b0 : Blk w1 w.heap.size 48 #[.int .i64 names, .int .i64 limit, .int .i64 window, .slice A0 ls.length c0, .slice A1 ds.length c1] := (blk_new w 48 _).below hB (by simp); have d0 := b0.cell 0 rfl; have hB1 : Below w.heap.size w w1 := hL.trans (hB.mono (by simp)))
          | (go_at_call 81; refine (in_any _ _ _ _).mono ?_; rintro e w' ⟨rfl, rfl⟩))
        go_ret2
        exact ⟨rfl, hB1⟩
      | true =>
        rw [ha, if_neg (by simp), hb, if_neg (by simp)] at hr
        have hai := inB_true (n := a) (a := 0) (b := names - 1) (by rw [ha]; simp)
        have hbi := inB_true (n := b) (a := 0) (b := names - 1) (by rw [hb]; simp)
        have ha8 : a.toNat < 8 := by omega
        have hb8 : b.toNat < 8 := by omega
        cases hs : tieAt (tiesL false ls) a b with
        | true =>
          rw [if_pos hs] at hr
          subst hr
          go_enter Try.func69, Try.ntmps69
          go_wp2_with (first
            | (go_at_call 73; refine (check73_any names limit window A0 c0 ls A1 c1 ds _ (Kd.C_below hl hL) hlc (Kd.C_below hd hL)).mono ?_; rintro e w1 ⟨rfl, hB⟩; rw [← HT.out, h0]; have b0 : Blk w1 w.heap.size 48 #[.int .i64 names, .int .i64 limit, .int .i64 window, .slice A0 ls.length c0, .slice A1 ds.length c1] := (blk_new w 48 _).below hB (by simp); have d0 := b0.cell 0 rfl; have d1 := b0.cell 1 rfl; have d2 := b0.cell 2 rfl; have d3 := b0.cell 3 rfl; have d4 := b0.cell 4 rfl; have hB1 : Below w.heap.size w w1 := hL.trans (hB.mono (by simp)); have hl1 := Kd.C_below hl hB1)
            | (go_at_call 81; refine (in_any _ _ _ _).mono ?_; rintro e w' ⟨rfl, rfl⟩)
            | (go_at_call_of 87 (Value.bool false); refine (tiesOf_any names limit window A0 c0 ls (.slice A1 ds.length c1) false _ hl1 hok.links hok.n8).mono ?_; rintro e w2 ⟨rfl, hB2⟩; have b2 := b0.below hB2 b0.lt; have f0 := b2.cell 0 rfl; have f1 := b2.cell 1 rfl; have f2 := b2.cell 2 rfl; have f3 := b2.cell 3 rfl; have f4 := b2.cell 4 rfl; have hl2 := Kd.C_below hl1 hB2)
            | ((with_reducible refine gate_dst (N := 31) rfl ?_); refine ev_index134 rfl _ _ rfl (xs := tiesL false ls) rfl rfl hai.1 (by omega) ?_)
            | ((with_reducible refine gate_dst (N := 33) rfl ?_); refine ev_index132 rfl _ _ rfl (xs := ((tiesL false ls).drop (a.toNat * 8)).take 8) rfl (row_len (tiesL_len _ _) ha8) rfl hbi.1 (by omega) ?_; rw [row_at hb8, hs]))
          go_ret2
          exact ⟨rfl, hB1.trans (hB2.mono hB1.size)⟩
        | false =>
          rw [hs, if_neg (by simp)] at hr
          cases hs2 : tieAt (tiesL true ls) a b with
          | true =>
            rw [if_pos hs2] at hr
            subst hr
            go_enter Try.func69, Try.ntmps69
            go_wp2_with (first
              | (go_at_call 73; refine (check73_any names limit window A0 c0 ls A1 c1 ds _ (Kd.C_below hl hL) hlc (Kd.C_below hd hL)).mono ?_; rintro e w1 ⟨rfl, hB⟩; rw [← HT.out, h0]; have b0 : Blk w1 w.heap.size 48 #[.int .i64 names, .int .i64 limit, .int .i64 window, .slice A0 ls.length c0, .slice A1 ds.length c1] := (blk_new w 48 _).below hB (by simp); have d0 := b0.cell 0 rfl; have d1 := b0.cell 1 rfl; have d2 := b0.cell 2 rfl; have d3 := b0.cell 3 rfl; have d4 := b0.cell 4 rfl; have hB1 : Below w.heap.size w w1 := hL.trans (hB.mono (by simp)); have hl1 := Kd.C_below hl hB1)
              | (go_at_call 81; refine (in_any _ _ _ _).mono ?_; rintro e w' ⟨rfl, rfl⟩)
              | (go_at_call_of 87 (Value.bool false); refine (tiesOf_any names limit window A0 c0 ls (.slice A1 ds.length c1) false _ hl1 hok.links hok.n8).mono ?_; rintro e w2 ⟨rfl, hB2⟩; have b2 := b0.below hB2 b0.lt; have f0 := b2.cell 0 rfl; have f1 := b2.cell 1 rfl; have f2 := b2.cell 2 rfl; have f3 := b2.cell 3 rfl; have f4 := b2.cell 4 rfl; have hl2 := Kd.C_below hl1 hB2)
              | ((with_reducible refine gate_dst (N := 31) rfl ?_); refine ev_index134 rfl _ _ rfl (xs := tiesL false ls) rfl rfl hai.1 (by omega) ?_)
              | ((with_reducible refine gate_dst (N := 33) rfl ?_); refine ev_index132 rfl _ _ rfl (xs := ((tiesL false ls).drop (a.toNat * 8)).take 8) rfl (row_len (tiesL_len _ _) ha8) rfl hbi.1 (by omega) ?_; rw [row_at hb8, hs])
              | (go_at_call_of 87 (Value.bool true); refine (tiesOf_any names limit window A0 c0 ls (.slice A1 ds.length c1) true _ hl2 hok.links hok.n8).mono ?_; rintro e w3 ⟨rfl, hB3⟩)
              | ((with_reducible refine gate_dst (N := 38) rfl ?_); refine ev_index134 rfl _ _ rfl (xs := tiesL true ls) rfl rfl hai.1 (by omega) ?_)
              | ((with_reducible refine gate_dst (N := 40) rfl ?_); refine ev_index132 rfl _ _ rfl (xs := ((tiesL true ls).drop (a.toNat * 8)).take 8) rfl (row_len (tiesL_len _ _) ha8) rfl hbi.1 (by omega) ?_; rw [row_at hb8, hs2]))
            go_ret2
            exact ⟨rfl, (hB1.trans (hB2.mono hB1.size)).trans (hB3.mono (Nat.le_trans hB1.size hB2.size))⟩
          | false =>
            rw [hs2, if_neg (by simp)] at hr
            subst hr
            go_enter Try.func69, Try.ntmps69
            go_wp2_with (first
              | (go_at_call 73; refine (check73_any names limit window A0 c0 ls A1 c1 ds _ (Kd.C_below hl hL) hlc (Kd.C_below hd hL)).mono ?_; rintro e w1 ⟨rfl, hB⟩; rw [← HT.out, h0]; have b0 : Blk w1 w.heap.size 48 #[.int .i64 names, .int .i64 limit, .int .i64 window, .slice A0 ls.length c0, .slice A1 ds.length c1] := (blk_new w 48 _).below hB (by simp); have d0 := b0.cell 0 rfl; have d1 := b0.cell 1 rfl; have d2 := b0.cell 2 rfl; have d3 := b0.cell 3 rfl; have d4 := b0.cell 4 rfl; have hB1 : Below w.heap.size w w1 := hL.trans (hB.mono (by simp)); have hl1 := Kd.C_below hl hB1)
              | (go_at_call 81; refine (in_any _ _ _ _).mono ?_; rintro e w' ⟨rfl, rfl⟩)
              | (go_at_call_of 87 (Value.bool false); refine (tiesOf_any names limit window A0 c0 ls (.slice A1 ds.length c1) false _ hl1 hok.links hok.n8).mono ?_; rintro e w2 ⟨rfl, hB2⟩; have b2 := b0.below hB2 b0.lt; have f0 := b2.cell 0 rfl; have f1 := b2.cell 1 rfl; have f2 := b2.cell 2 rfl; have f3 := b2.cell 3 rfl; have f4 := b2.cell 4 rfl; have hl2 := Kd.C_below hl1 hB2)
              | ((with_reducible refine gate_dst (N := 31) rfl ?_); refine ev_index134 rfl _ _ rfl (xs := tiesL false ls) rfl rfl hai.1 (by omega) ?_)
              | ((with_reducible refine gate_dst (N := 33) rfl ?_); refine ev_index132 rfl _ _ rfl (xs := ((tiesL false ls).drop (a.toNat * 8)).take 8) rfl (row_len (tiesL_len _ _) ha8) rfl hbi.1 (by omega) ?_; rw [row_at hb8, hs])
              | (go_at_call_of 87 (Value.bool true); refine (tiesOf_any names limit window A0 c0 ls (.slice A1 ds.length c1) true _ hl2 hok.links hok.n8).mono ?_; rintro e w3 ⟨rfl, hB3⟩)
              | ((with_reducible refine gate_dst (N := 38) rfl ?_); refine ev_index134 rfl _ _ rfl (xs := tiesL true ls) rfl rfl hai.1 (by omega) ?_)
              | ((with_reducible refine gate_dst (N := 40) rfl ?_); refine ev_index132 rfl _ _ rfl (xs := ((tiesL true ls).drop (a.toNat * 8)).take 8) rfl (row_len (tiesL_len _ _) ha8) rfl hbi.1 (by omega) ?_; rw [row_at hb8, hs2]))
            go_ret2
            exact ⟨rfl, (hB1.trans (hB2.mono hB1.size)).trans (hB3.mono (Nat.le_trans hB1.size hB2.size))⟩
  · rw [sameR, ← ht, if_pos h0] at hr
    subst hr
    clear ht
    go_enter Try.func69, Try.ntmps69
    go_wp2_with (go_at_call 73; refine (check73_any names limit window A0 c0 ls A1 c1 ds _ (Kd.C_below hl hL) hlc (Kd.C_below hd hL)).mono ?_; rintro e w1 ⟨rfl, hB⟩; rw [← HT.out])
    go_ret2
    exact ⟨rfl, hL.trans (hB.mono (by simp))⟩
end Go.Proofs.Ytkdlbocjgbmbdaa.Print
