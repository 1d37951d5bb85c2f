import Derived.Test.YtkdlbocjgbmbdaaHe3
import Derived.Maps.OwnOps
import Derived.Defers
set_option linter.unusedVariables false
set_option linter.unusedSimpArgs false
namespace Go.Proofs.Ytkdlbocjgbmbdaa.Print
open Go.RowKit Go.Shelf Go.Proofs.YtkdlbocjgbmbdaaW.PrintWords
set_option linter.unusedVariables false
attribute [local go_sem] Oper.semAt_some
attribute [local go_sem] wide_fn wide_asked
def dayE (names limit window : Int) (ls : List S84) (ds : List S61) (name day : Int) (fine : Bool) : Int :=
  if tillE names limit window ls ds ≠ 0 then tillE names limit window ls ds else if inB name 0 (names - 1) = false then 3 else if inB day 0 4000 = false then 1 else if fine = false then 1
  else if 0 < ds.length ∧ day < (ds.getD (ds.length - 1) z61).f0 then 12 else if keptT true names limit window ls ds = false then 13 else 0
set_option maxRecDepth 100000 in
set_option maxHeartbeats 4000000 in
theorem day_any (names limit window : Int) (A0 : Option Addr) (c0 : Nat) (ls : List S84) (A1 : Option Addr) (c1 : Nat) (ds : List S61) (name day : Int) (fine : Bool) (w : World)
    (hl : Kd.C k84 w A0 ls.length ls) (hlc : ls.length ≤ c0) (hd : Kd.C k61 w A1 ds.length ds) :
    Calls Try.prog 85 #[.agg #[.int .i64 names, .int .i64 limit, .int .i64 window, .slice A0 ls.length c0, .slice A1 ds.length c1], .int .i64 name, .int .i64 day, .bool fine] w fun e w' =>
      e = .returned (.int .i64 (dayE names limit window ls ds name day fine)) ∧ Below w.heap.size w w' := by
  obtain ⟨t, ht⟩ : ∃ t, t = tillE names limit window ls ds := ⟨_, rfl⟩
  obtain ⟨r, hr⟩ : ∃ r, r = dayE names limit window ls ds name day fine := ⟨_, rfl⟩
  have HT : Hid (t = tillE names limit window ls ds) := ht
  have hL : Below w.heap.size w (w.alloc (.cells #[.int .i64 names, .int .i64 limit, .int .i64 window, .slice A0 ls.length c0, .slice A1 ds.length c1] 48)) := below_alloc (Below.refl _ _) _
  have hmax := Kd.C_max hd
  rw [← hr]
  by_cases h0 : t = 0
  · have hok : TillOk names limit window ls ds := tillE_ok (by rw [← ht]; exact h0)
    rw [dayE, ← ht, if_neg (by simpa using h0)] at hr
    clear ht
    have hn1 := hok.n1
    have hn8 := hok.n8
    cases ha : inB name 0 (names - 1) with
    | false =>
      rw [if_pos ha] at hr
      subst hr
      go_enter Try.func85, Try.ntmps85
      go_wp2_with (first
        | (go_at_call 73; refine (check73_any names limit window A0 c0 ls _ c1 ds _ (Kd.C_below hl hL) hlc (Kd.C_below hd hL)).mono ?_; rintro e w1 ⟨rfl, hB⟩; rw [← HT.out, h0]; have b0 : Blk w1 w.heap.size 48 #[.int .i64 names, .int .i64 limit, .int .i64 window, .slice A0 ls.length c0, .slice A1 ds.length c1] := (blk_new w 48 _).below hB (by simp); have d0 := b0.cell 0 rfl; have d4 := b0.cell 4 rfl; have hB1 : Below w.heap.size w w1 := hL.trans (hB.mono (by simp)); have hl1 := Kd.C_below hl hB1; have hd1 := Kd.C_below hd hB1)
        | (go_at_call 81; refine (in_any _ _ _ _).mono ?_; rintro e w' ⟨rfl, rfl⟩))
      go_ret
      exact ⟨rfl, hB1⟩
    | true =>
      rw [ha, if_neg (by simp)] at hr
      cases hb : inB day 0 4000 with
      | false =>
        rw [if_pos hb] at hr
        subst hr
        go_enter Try.func85, Try.ntmps85
        go_wp2_with (first
          | (go_at_call 73; refine (check73_any names limit window A0 c0 ls _ c1 ds _ (Kd.C_below hl hL) hlc (Kd.C_below hd hL)).mono ?_; rintro e w1 ⟨rfl, hB⟩; rw [← HT.out, h0]; have b0 : Blk w1 w.heap.size 48 #[.int .i64 names, .int .i64 limit, .int .i64 window, .slice A0 ls.length c0, .slice A1 ds.length c1] := (blk_new w 48 _).below hB (by simp); have d0 := b0.cell 0 rfl; have d4 := b0.cell 4 rfl; have hB1 : Below w.heap.size w w1 := hL.trans (hB.mono (by simp)); have hl1 := Kd.C_below hl hB1; have hd1 := Kd.C_below hd hB1)
          | (go_at_call 81; refine (in_any _ _ _ _).mono ?_; rintro e w' ⟨rfl, rfl⟩))
        go_ret
        exact ⟨rfl, hB1⟩
      | true =>
        rw [hb, if_neg (by simp)] at hr
        cases fine with
        | false =>
          rw [if_pos rfl] at hr
          subst hr
          go_enter Try.func85, Try.ntmps85
          go_wp2_with (first
            | (go_at_call 73; refine (check73_any names limit window A0 c0 ls _ c1 ds _ (Kd.C_below hl hL) hlc (Kd.C_below hd hL)).mono ?_; rintro e w1 ⟨rfl, hB⟩; rw [← HT.out, h0]; have b0 : Blk w1 w.heap.size 48 #[.int .i64 names, .int .i64 limit, .int .i64 window, .slice A0 ls.length c0, .slice A1 ds.length c1] := (blk_new w 48 _).below hB (by simp); have d0 := b0.cell 0 rfl; have d4 := b0.cell 4 rfl; have hB1 : Below w.heap.size w w1 := hL.trans (hB.mono (by simp)); have hl1 := Kd.C_below hl hB1; have hd1 := Kd.C_below hd hB1)
            | (go_at_call 81; refine (in_any _ _ _ _).mono ?_; rintro e w' ⟨rfl, rfl⟩))
          go_ret
          exact ⟨rfl, hB1⟩
        | true =>
          rw [if_neg (by simp)] at hr
          have hdb := inB_true (n := day) (a := 0) (b := 4000) (by rw [hb]; simp)
          rcases Nat.eq_zero_or_pos ds.length with hz | hz
          · rw [if_neg (by omega)] at hr
            have hzi : ¬ (0 : Int) < (ds.length : Int) := by omega
            clear hz
            cases hk1 : keptI (tiesL true ls) names limit window ds with
            | true =>
              have HR : Hid (r = 0) := by
                show r = 0
                rw [hr, keptT, hk1]; rfl
              clear hr
              go_enter Try.func85, Try.ntmps85
              go_wp2_with (first
                | (go_at_call 73; refine (check73_any names limit window A0 c0 ls _ c1 ds _ (Kd.C_below hl hL) hlc (Kd.C_below hd hL)).mono ?_; rintro e w1 ⟨rfl, hB⟩; rw [← HT.out, h0]; have b0 : Blk w1 w.heap.size 48 #[.int .i64 names, .int .i64 limit, .int .i64 window, .slice A0 ls.length c0, .slice A1 ds.length c1] := (blk_new w 48 _).below hB (by simp); have d0 := b0.cell 0 rfl; have d4 := b0.cell 4 rfl; have hB1 : Below w.heap.size w w1 := hL.trans (hB.mono (by simp)); have hl1 := Kd.C_below hl hB1; have hd1 := Kd.C_below hd hB1)
                | (go_at_call 81; refine (in_any _ _ _ _).mono ?_; rintro e w' ⟨rfl, rfl⟩))
              have e0 := ext_cell (b0.cell 0 rfl)
              have e1 := ext_cell (b0.cell 1 rfl)
              have e2 := ext_cell (b0.cell 2 rfl)
              have e3 := ext_cell (b0.cell 3 rfl)
              have e4 := ext_cell (b0.cell 4 rfl)
              refine wp_region_ext (by kernel_rfl) (by kernel_rfl) ?_
              repeat (gi_big_quiet_step ((rename_i x; first
                | exact callsIn_wide.2 ((tiesOf_any names limit window A0 c0 ls (.slice A1 ds.length c1) true x.1 (Kd.C_below hl1 x.2) hok.links hok.n8).mono fun e w' h => ⟨h.1, ext_go h.2⟩)
                | exact callsIn_wide.2 ((kept_any names limit window _ _ A1 c1 ds (tiesL true ls) x.1 (Kd.C_below hd1 x.2) (tiesL_len _ _) hok.w1 hok.w2 hok.dues (by omega) hok.n8 (by have := hok.fewd; omega)).mono fun e w' h => ⟨h.1.trans (by rw [hk1]), ext_go h.2⟩))))
              refine wpQuietIn_nil ?_
              rintro _ ⟨⟨W2, hx⟩, rfl⟩
              go_wp2
              go_ret
              exact ⟨by rw [HR.out]; rfl, hB1.trans (hx.mono hB1.size)⟩
            | false =>
              have HR : Hid (r = 13) := by
                show r = 13
                rw [hr, keptT, hk1]; rfl
              clear hr
              go_enter Try.func85, Try.ntmps85
              go_wp2_with (first
                | (go_at_call 73; refine (check73_any names limit window A0 c0 ls _ c1 ds _ (Kd.C_below hl hL) hlc (Kd.C_below hd hL)).mono ?_; rintro e w1 ⟨rfl, hB⟩; rw [← HT.out, h0]; have b0 : Blk w1 w.heap.size 48 #[.int .i64 names, .int .i64 limit, .int .i64 window, .slice A0 ls.length c0, .slice A1 ds.length c1] := (blk_new w 48 _).below hB (by simp); have d0 := b0.cell 0 rfl; have d4 := b0.cell 4 rfl; have hB1 : Below w.heap.size w w1 := hL.trans (hB.mono (by simp)); have hl1 := Kd.C_below hl hB1; have hd1 := Kd.C_below hd hB1)
                | (go_at_call 81; refine (in_any _ _ _ _).mono ?_; rintro e w' ⟨rfl, rfl⟩))
              have e0 := ext_cell (b0.cell 0 rfl)
              have e1 := ext_cell (b0.cell 1 rfl)
              have e2 := ext_cell (b0.cell 2 rfl)
              have e3 := ext_cell (b0.cell 3 rfl)
              have e4 := ext_cell (b0.cell 4 rfl)
              refine wp_region_ext (by kernel_rfl) (by kernel_rfl) ?_
              repeat (gi_big_quiet_step ((rename_i x; first
                | exact callsIn_wide.2 ((tiesOf_any names limit window A0 c0 ls (.slice A1 ds.length c1) true x.1 (Kd.C_below hl1 x.2) hok.links hok.n8).mono fun e w' h => ⟨h.1, ext_go h.2⟩)
                | exact callsIn_wide.2 ((kept_any names limit window _ _ A1 c1 ds (tiesL true ls) x.1 (Kd.C_below hd1 x.2) (tiesL_len _ _) hok.w1 hok.w2 hok.dues (by omega) hok.n8 (by have := hok.fewd; omega)).mono fun e w' h => ⟨h.1.trans (by rw [hk1]), ext_go h.2⟩))))
              refine wpQuietIn_nil ?_
              rintro _ ⟨⟨W2, hx⟩, rfl⟩
              go_wp2
              go_ret
              exact ⟨by rw [HR.out]; rfl, hB1.trans (hx.mono hB1.size)⟩
          · obtain ⟨d, hdd⟩ : ∃ d, d = ds.getD (ds.length - 1) z61 := ⟨_, rfl⟩
            rw [← hdd] at hr
            have HD : Hid (d = ds.getD (ds.length - 1) z61) := hdd
            clear hdd
            have hzi : (0 : Int) < (ds.length : Int) := by omega
            obtain ⟨ad, hA, k0, _⟩ := at_T61 hd ((ds.length - 1 : Nat) : Int) (by omega) (by omega)
            subst hA
            rw [rd_T61_at ds (ds.length - 1) (by omega), show ds[ds.length - 1]'(by omega) = d by rw [HD.out, List.getD_eq_getElem?_getD, List.getElem?_eq_getElem (by omega)]; rfl] at k0
            simp only [Int.toNat_natCast] at k0
            have k1 : w.cell? (ad.add (((ds.length : Int) - 1).toNat * 4)) = some (.int .i64 d.f0) := by
              rw [show ((ds.length : Int) - 1).toNat = ds.length - 1 by omega]; exact k0
            by_cases hlate : day < d.f0
            · rw [if_pos ⟨hz, hlate⟩] at hr
              subst hr
              go_enter Try.func85, Try.ntmps85
              go_wp2_with (first
                | (go_at_call 73; refine (check73_any names limit window A0 c0 ls (some ad) c1 ds _ (Kd.C_below hl hL) hlc (Kd.C_below hd hL)).mono ?_; rintro e w1 ⟨rfl, hB⟩; rw [← HT.out, h0]; have b0 : Blk w1 w.heap.size 48 #[.int .i64 names, .int .i64 limit, .int .i64 window, .slice A0 ls.length c0, .slice (some ad) ds.length c1] := (blk_new w 48 _).below hB (by simp); have d0 := b0.cell 0 rfl; have d4 := b0.cell 4 rfl; have hB1 : Below w.heap.size w w1 := hL.trans (hB.mono (by simp)); have hl1 := Kd.C_below hl hB1; have hd1 := Kd.C_below hd hB1; have k2 := (hB1.cell (World.block_lt_of_cell? w _ k0)).trans k0; have k3 := (hB1.cell (World.block_lt_of_cell? w _ k1)).trans k1)
                | (go_at_call 81; refine (in_any _ _ _ _).mono ?_; rintro e w' ⟨rfl, rfl⟩))
              go_ret
              exact ⟨rfl, hB1⟩
            · rw [if_neg (fun h => hlate h.2)] at hr
              cases hk1 : keptI (tiesL true ls) names limit window ds with
              | true =>
                have HR : Hid (r = 0) := by
                  show r = 0
                  rw [hr, keptT, hk1]; rfl
                clear hr
                go_enter Try.func85, Try.ntmps85
                go_wp2_with (first
                  | (go_at_call 73; refine (check73_any names limit window A0 c0 ls _ c1 ds _ (Kd.C_below hl hL) hlc (Kd.C_below hd hL)).mono ?_; rintro e w1 ⟨rfl, hB⟩; rw [← HT.out, h0]; have b0 : Blk w1 w.heap.size 48 #[.int .i64 names, .int .i64 limit, .int .i64 window, .slice A0 ls.length c0, .slice (some ad) ds.length c1] := (blk_new w 48 _).below hB (by simp); have d0 := b0.cell 0 rfl; have d4 := b0.cell 4 rfl; have hB1 : Below w.heap.size w w1 := hL.trans (hB.mono (by simp)); have hl1 := Kd.C_below hl hB1; have hd1 := Kd.C_below hd hB1; have k2 := (hB1.cell (World.block_lt_of_cell? w _ k0)).trans k0; have k3 := (hB1.cell (World.block_lt_of_cell? w _ k1)).trans k1)
                  | (go_at_call 81; refine (in_any _ _ _ _).mono ?_; rintro e w' ⟨rfl, rfl⟩))
                have e0 := ext_cell (b0.cell 0 rfl)
                have e1 := ext_cell (b0.cell 1 rfl)
                have e2 := ext_cell (b0.cell 2 rfl)
                have e3 := ext_cell (b0.cell 3 rfl)
                have e4 := ext_cell (b0.cell 4 rfl)
                refine wp_region_ext (by kernel_rfl) (by kernel_rfl) ?_
                repeat (gi_big_quiet_step ((rename_i x; first
                  | exact callsIn_wide.2 ((tiesOf_any names limit window A0 c0 ls (.slice (some ad) ds.length c1) true x.1 (Kd.C_below hl1 x.2) hok.links hok.n8).mono fun e w' h => ⟨h.1, ext_go h.2⟩)
                  | exact callsIn_wide.2 ((kept_any names limit window _ _ (some ad) c1 ds (tiesL true ls) x.1 (Kd.C_below hd1 x.2) (tiesL_len _ _) hok.w1 hok.w2 hok.dues (by omega) hok.n8 (by have := hok.fewd; omega)).mono fun e w' h => ⟨h.1.trans (by rw [hk1]), ext_go h.2⟩))))
                refine wpQuietIn_nil ?_
                rintro _ ⟨⟨W2, hx⟩, rfl⟩
                go_wp2
                go_ret
                exact ⟨by rw [HR.out]; rfl, hB1.trans (hx.mono hB1.size)⟩
              | false =>
                have HR : Hid (r = 13) := by
                  show r = 13
                  rw [hr, keptT, hk1]; rfl
                clear hr
                go_enter Try.func85, Try.ntmps85
                go_wp2_with (first
                  | (go_at_call 73; refine (check73_any names limit window A0 c0 ls _ c1 ds _ (Kd.C_below hl hL) hlc (Kd.C_below hd hL)).mono ?_; rintro e w1 ⟨rfl, hB⟩; rw [← HT.out, h0]; have b0 : Blk w1 w.heap.size 48 #[.int .i64 names, .int .i64 limit, .int .i64 window, .slice A0 ls.length c0, .slice (some ad) ds.length c1] := (blk_new w 48 _).below hB (by simp); have d0 := b0.cell 0 rfl; have d4 := b0.cell 4 rfl; have hB1 : Below w.heap.size w w1 := hL.trans (hB.mono (by simp)); have hl1 := Kd.C_below hl hB1; have hd1 := Kd.C_below hd hB1; have k2 := (hB1.cell (World.block_lt_of_cell? w _ k0)).trans k0; have k3 := (hB1.cell (World.block_lt_of_cell? w _ k1)).trans k1)
                  | (go_at_call 81; refine (in_any _ _ _ _).mono ?_; rintro e w' ⟨rfl, rfl⟩))
                have e0 := ext_cell (b0.cell 0 rfl)
                have e1 := ext_cell (b0.cell 1 rfl)
                have e2 := ext_cell (b0.cell 2 rfl)
                have e3 := ext_cell (b0.cell 3 rfl)
                have e4 := ext_cell (b0.cell 4 rfl)
                refine wp_region_ext (by kernel_rfl) (by kernel_rfl) ?_
                repeat (gi_big_quiet_step ((rename_i x; first
                  | exact callsIn_wide.2 ((tiesOf_any names limit window A0 c0 ls (.slice (some ad) ds.length c1) true x.1 (Kd.C_below hl1 x.2) hok.links hok.n8).mono fun e w' h => ⟨h.1, ext_go h.2⟩)
                  | exact callsIn_wide.2 ((kept_any names limit window _ _ (some ad) c1 ds (tiesL true ls) x.1 (Kd.C_below hd1 x.2) (tiesL_len _ _) hok.w1 hok.w2 hok.dues (by omega) hok.n8 (by have := hok.fewd; omega)).mono fun e w' h => ⟨h.1.trans (by rw [hk1]), ext_go h.2⟩))))
                refine wpQuietIn_nil ?_
                rintro _ ⟨⟨W2, hx⟩, rfl⟩
                go_wp2
                go_ret
                exact ⟨by rw [HR.out]; rfl, hB1.trans (hx.mono hB1.size)⟩
  · rw [dayE, ← ht, if_pos h0] at hr
    subst hr
    clear ht
    go_enter Try.func85, Try.ntmps85
    go_wp2_with (go_at_call 73; refine (check73_any names limit window A0 c0 ls _ c1 ds _ (Kd.C_below hl hL) hlc (Kd.C_below hd hL)).mono ?_; rintro e w1 ⟨rfl, hB⟩; rw [← HT.out])
    go_ret
    exact ⟨rfl, hL.trans (hB.mono (by simp))⟩
end Go.Proofs.Ytkdlbocjgbmbdaa.Print

namespace Go.Proofs.Ytkdlbocjgbmbdaa.Print
open Go.RowKit Go.Shelf Go.Proofs.YtkdlbocjgbmbdaaW.PrintWords
set_option linter.unusedVariables false
attribute [local go_sem] Oper.semAt_some
attribute [local go_sem] wide_fn wide_asked
structure DayOk (names limit window : Int) (ls : List S84) (ds : List S61) (name day : Int) (fine : Bool) : Prop where
  till : TillOk names limit window ls ds
  n0 : 0 ≤ name
  n1 : name < names
  d0 : 0 ≤ day
  d1 : day ≤ 4000
  fine : fine = true
  late : 0 < ds.length → (ds.getD (ds.length - 1) z61).f0 ≤ day
  kept : keptT true names limit window ls ds = true
theorem dayE_ok {names limit window : Int} {ls : List S84} {ds : List S61} {name day : Int} {fine : Bool} (h : dayE names limit window ls ds name day fine = 0) : DayOk names limit window ls ds name day fine := by
  unfold dayE at h
  split at h
  · rename_i g; exact absurd h g
  rename_i g0
  split at h
  · cases h
  rename_i g1
  split at h
  · cases h
  rename_i g2
  split at h
  · cases h
  rename_i g3
  split at h
  · cases h
  rename_i g4
  split at h
  · cases h
  rename_i g5
  have := inB_true g1
  have := inB_true g2
  exact ⟨tillE_ok (by simpa using g0), by omega, by omega, by omega, by omega, by simpa using g3, fun hz => by omega, by simpa using g5⟩
def roomV (names limit window : Int) (ls : List S84) (ds : List S61) (name day : Int) : Int := limit - sumWin (tiesL true ls) window name day ds (cashI ds ds.length)
def roomR (names limit window : Int) (ls : List S84) (ds : List S61) (name day : Int) : Int × Int :=
  if dayE names limit window ls ds name day true ≠ 0 then (0, dayE names limit window ls ds name day true) else (roomV names limit window ls ds name day, 0)
set_option maxRecDepth 100000 in
set_option maxHeartbeats 4000000 in
theorem room_any (names limit window : Int) (A0 : Option Addr) (c0 : Nat) (ls : List S84) (A1 : Option Addr) (c1 : Nat) (ds : List S61) (name day : Int) (w : World)
    (hl : Kd.C k84 w A0 ls.length ls) (hlc : ls.length ≤ c0) (hd : Kd.C k61 w A1 ds.length ds) :
    Calls Try.prog 33 #[.agg #[.int .i64 names, .int .i64 limit, .int .i64 window, .slice A0 ls.length c0, .slice A1 ds.length c1], .int .i64 name, .int .i64 day] w fun e w' =>
      e = .returned (.tuple #[.int .i64 (roomR names limit window ls ds name day).1, .int .i64 (roomR names limit window ls ds name day).2]) ∧ Below w.heap.size w w' := by
  obtain ⟨t, ht⟩ : ∃ t, t = dayE names limit window ls ds name day true := ⟨_, rfl⟩
  obtain ⟨r, hr⟩ : ∃ r, r = roomR names limit window ls ds name day := ⟨_, rfl⟩
  have HT : Hid (t = dayE names limit window ls ds name day true) := ht
  have hL : Below w.heap.size w (w.alloc (.cells #[.int .i64 names, .int .i64 limit, .int .i64 window, .slice A0 ls.length c0, .slice A1 ds.length c1] 48)) := below_alloc (Below.refl _ _) _
  rw [← hr]
  by_cases h0 : t = 0
  · have hok : DayOk names limit window ls ds name day true := dayE_ok (by rw [← ht]; exact h0)
    rw [roomR, ← ht, if_neg (by simpa using h0)] at hr
    clear ht
    obtain ⟨s, hs⟩ : ∃ s, s = sumWin (tiesL true ls) window name day ds (cashI ds ds.length) := ⟨_, rfl⟩
    have hsb := sumWin_bounds (tiesL true ls) names window name day ds hok.till.dues (cashI ds ds.length)
    have hcl := cashI_len ds ds.length
    have hfew := hok.till.fewd
    rw [roomV, ← hs] at hr
    rw [← hs] at hsb
    have HS : Hid (s = sumWin (tiesL true ls) window name day ds (cashI ds ds.length)) := hs
    clear hs
    have hs0 := hsb.1
    have hs1 : s ≤ 2000000000 := by omega
    have hl0 := hok.till.l0
    have hl1' := hok.till.l1
    have HR : Hid (r = (limit - s, 0)) := hr
    clear hr hsb hcl hfew
    go_enter Try.func33, Try.ntmps33
    go_wp2_with (go_at_call 85; refine (day_any names limit window A0 c0 ls A1 c1 ds name day true _ (Kd.C_below hl hL) hlc (Kd.C_below hd hL)).mono ?_; rintro e w1 ⟨rfl, hB⟩; rw [← HT.out, h0]; have b0 : Blk w1 w.heap.size 48 #[.int .i64 names, .int .i64 limit, .int .i64 window, .slice A0 ls.length c0, .slice A1 ds.length c1] := (blk_new w 48 _).below hB (by simp); have hB1 : Below w.heap.size w w1 := hL.trans (hB.mono (by simp)); have hl1 := Kd.C_below hl hB1; have hd1 := Kd.C_below hd hB1)
    have e0 := ext_cell (b0.cell 0 rfl)
    have e1 := ext_cell (b0.cell 1 rfl)
    have e2 := ext_cell (b0.cell 2 rfl)
    have e3 := ext_cell (b0.cell 3 rfl)
    have e4 := ext_cell (b0.cell 4 rfl)
    have hwr : IntKind.i64.wrap (limit - s) = limit - s := IntWalk.i64_in _ (by omega)
    refine wp_region_ext (by kernel_rfl) (by kernel_rfl) ?_
    repeat (gi_big_quiet_step ((rename_i x; first
      | exact callsIn_wide.2 ((tiesOf_any names limit window A0 c0 ls (.slice A1 ds.length c1) true x.1 (Kd.C_below hl1 x.2) hok.till.links hok.till.n8).mono fun e w' h => ⟨h.1, ext_go h.2⟩)
      | exact callsIn_wide.2 ((within_any names limit window _ _ A1 c1 ds (tiesL true ls) name day x.1 (Kd.C_below hd1 x.2) (tiesL_len _ _) hok.n0 (by have := hok.n1; have := hok.till.n8; omega) hok.till.w1 hok.till.w2 hok.d0 hok.d1 hok.till.dues hok.till.n8 (by have := hok.till.fewd; omega)).mono fun e w' h => ⟨h.1.trans (by rw [← HS.out]), ext_go h.2⟩))))
    refine wpQuietIn_nil ?_
    rintro _ ⟨⟨W2, hx⟩, rfl⟩
    go_wp2
    go_ret2
    exact ⟨by rw [HR.out]; rfl, hB1.trans (hx.mono hB1.size)⟩
  · rw [roomR, ← ht, if_pos h0] at hr
    subst hr
    clear ht
    go_enter Try.func33, Try.ntmps33
    go_wp2_with (go_at_call 85; refine (day_any names limit window A0 c0 ls A1 c1 ds name day true _ (Kd.C_below hl hL) hlc (Kd.C_below hd hL)).mono ?_; rintro e w1 ⟨rfl, hB⟩; rw [← HT.out])
    go_ret2
    exact ⟨rfl, hL.trans (hB.mono (by simp))⟩
end Go.Proofs.Ytkdlbocjgbmbdaa.Print

namespace Go.Proofs.Ytkdlbocjgbmbdaa.Print
open Go.RowKit Go.Shelf Go.Proofs.YtkdlbocjgbmbdaaW.PrintWords
set_option linter.unusedVariables false
attribute [local go_sem] Oper.semAt_some
attribute [local go_sem] wide_fn wide_asked
section
variable {ops : Array Oper} {rest : List Oper} {o : Oper} {a : Act} {Q : Exit → Act → World → Prop} {W : World}
theorem p_look (hg : o.guard = none) (mo xo : Operand) (hop : o.op = Op.lookup 140 mo xo false) {b n : Nat} {m} (hm : a.eval mo = .map (some b)) (h : IMap W b n m) {x y : Int} (hx : W64 x) (hy : W64 y) (hk : a.eval xo = whenV x y)
    (hK : wpList Try.prog ops Q rest (a.put o.dst (.int .i64 ((m x y).getD 0))) W) : wpList Try.prog ops Q (o :: rest) a W := by
  obtain ⟨D, hown, hD⟩ := h
  refine wpList_lookup_own_int W hg mo xo 140 hop 142 3 .i64 law142 Try.underlying140 Try.underlying3 (zero3 W) b n D hm hown _ _ hk (whenK_eq hx hy) fun c hat _ => ?_
  obtain ⟨h1, h2⟩ := hD x y hx hy
  rw [h2] at hat
  injection hat with e
  injection e with _ e
  rw [← e]
  exact hK
theorem p_put (hg : o.guard = none) (mo xo vo : Operand) (hop : o.op = Op.mapUpdate 140 mo xo vo) {b n : Nat} {m} (hm : a.eval mo = .map (some b)) (h : IMap W b n m) (hn : n < 1000000) {x y v : Int} (hx : W64 x) (hy : W64 y) (hv : W64 v) (hk : a.eval xo = whenV x y) (hvv : a.eval vo = .int .i64 v)
    (hK : ∀ W', IMap W' b (n + 1) (mput m x y v) → W.grownBy W' (some b) → wpList Try.prog ops Q rest (a.put o.dst undef) W') : wpList Try.prog ops Q (o :: rest) a W := by
  obtain ⟨D, hown, hD⟩ := h
  refine wpList_mapUpdate_own W hg mo xo vo 140 hop 142 3 law142 Try.underlying140 (plainElem Try.prog 3) b n D hm hown (by unfold maxLen; omega) _ _ _ hk hvv (whenK_eq hx hy) (.lit (.int .i64 v)) [] (plainElem_int Try.underlying3 (wf64 hv)) fun W' h1 h2 => ?_
  exact hK W' ⟨_, h1, imap_put hown.isMap hD hx hy⟩ h2
end
section
variable (Wn : Nat → Int) (limit window : Int)
def gAt (prev : List Int) (i : Int) : Int := if 0 ≤ i then prev.getD i.toNat 0 else 0
def rmFold (prev : List Int) (n : Nat) (s : Int) (l : List Nat) : Int := l.foldl (fun (r : Int) (j : Nat) => r - gAt prev ((n : Int) - window + 1 + (j : Int))) s
def rmNext (prev : List Int) (n : Nat) : Int := rmFold window prev n (limit - Wn n) (List.range (window - 1).toNat)
def rmS : Nat → List Int
  | 0 => []
  | n + 1 => rmS n ++ [rmNext Wn limit window (rmS n) n]
def rm (n : Nat) : Int := rmNext Wn limit window (rmS Wn limit window n) n
theorem rmS_len : ∀ n, (rmS Wn limit window n).length = n
  | 0 => rfl
  | n + 1 => by simp [rmS, rmS_len n]
def soonF (day : Int) : Nat → Nat → Int → Int × Int
  | 0, _, _ => (0, 12)
  | f + 1, n, c => if c ≤ rm Wn limit window n then (day + n, 0) else soonF day f (n + 1) (c - rm Wn limit window n)
end
section
variable {Wn : Nat → Int} {limit window : Int}
theorem rmS_at (n : Nat) : ∀ i, i < n → (rmS Wn limit window n).getD i 0 = rm Wn limit window i := by
  induction n with
  | zero => intro i h; omega
  | succ n ih =>
    intro i h
    rw [rmS, List.getD_eq_getElem?_getD]
    by_cases hi : i < n
    · rw [List.getElem?_append_left (by rw [rmS_len]; exact hi), ← List.getD_eq_getElem?_getD]
      exact ih i hi
    · obtain rfl : i = n := by omega
      rw [List.getElem?_append_right (by rw [rmS_len]; exact Nat.le_refl _), rmS_len]
      simp [rm]
theorem gAt_out (n : Nat) (i : Int) (h : i < 0 ∨ (n : Int) ≤ i) : gAt (rmS Wn limit window n) i = 0 := by
  unfold gAt
  split
  · rw [List.getD_eq_getElem?_getD, List.getElem?_eq_none (by rw [rmS_len]; omega)]; rfl
  · rfl
theorem gAt_in (n : Nat) (i : Int) (h0 : 0 ≤ i) (h : i < n) : gAt (rmS Wn limit window n) i = rm Wn limit window i.toNat := by
  unfold gAt
  rw [if_pos h0, rmS_at n i.toNat (by omega)]
theorem gAt_next (n : Nat) (i : Int) (h : i ≠ n) : gAt (rmS Wn limit window (n + 1)) i = gAt (rmS Wn limit window n) i := by
  by_cases h0 : 0 ≤ i
  · by_cases h1 : i < n
    · rw [gAt_in n i h0 h1, gAt_in (n + 1) i h0 (by push_cast; omega)]
    · rw [gAt_out n i (Or.inr (by omega)), gAt_out (n + 1) i (Or.inr (by push_cast; omega))]
  · rw [gAt_out n i (Or.inl (by omega)), gAt_out (n + 1) i (Or.inl (by omega))]
theorem gAt_last (n : Nat) : gAt (rmS Wn limit window (n + 1)) n = rm Wn limit window n := by
  rw [gAt_in (n + 1) n (by omega) (by push_cast; omega), Int.toNat_natCast]
theorem gAt_bounds (hl : 0 ≤ limit) (hbd : ∀ n : Nat, 0 ≤ rm Wn limit window n ∧ rm Wn limit window n ≤ limit) (n : Nat) (i : Int) : 0 ≤ gAt (rmS Wn limit window n) i ∧ gAt (rmS Wn limit window n) i ≤ limit := by
  by_cases h0 : 0 ≤ i
  · by_cases h1 : i < n
    · rw [gAt_in n i h0 h1]; exact hbd _
    · rw [gAt_out n i (Or.inr (by omega))]; exact ⟨Int.le_refl _, hl⟩
  · rw [gAt_out n i (Or.inl (by omega))]; exact ⟨Int.le_refl _, hl⟩
theorem rmFold_snoc (prev : List Int) (n : Nat) (s : Int) (j : Nat) : rmFold window prev n s (List.range (j + 1)) = rmFold window prev n s (List.range j) - gAt prev ((n : Int) - window + 1 + (j : Int)) := by
  unfold rmFold
  rw [List.range_succ, List.foldl_append]
  rfl
end
def soonE (names limit window : Int) (ls : List S84) (ds : List S61) (name day cents : Int) : Int := dayE names limit window ls ds name day (inB cents 0 100000000)
def soonW (window : Int) (ls : List S84) (ds : List S61) (name day : Int) (n : Nat) : Int := sumWin (tiesL true ls) window name (day + n) ds (cashI ds ds.length)
def soonR (names limit window : Int) (ls : List S84) (ds : List S61) (name day cents : Int) : Int × Int :=
  if soonE names limit window ls ds name day cents ≠ 0 then (0, soonE names limit window ls ds name day cents) else soonF (soonW window ls ds name day) limit window day (4001 - day).toNat 0 cents
set_option maxRecDepth 100000 in
set_option maxHeartbeats 8000000 in
theorem soon_main (names limit window : Int) (A0 : Option Addr) (c0 : Nat) (ls : List S84) (A1 : Option Addr) (c1 : Nat) (ds : List S61) (name day cents : Int) (w : World)
    (hl : Kd.C k84 w A0 ls.length ls) (hlc : ls.length ≤ c0) (hd : Kd.C k61 w A1 ds.length ds)
    (h0 : soonE names limit window ls ds name day cents = 0) (hbd : ∀ n : Nat, 0 ≤ rm (soonW window ls ds name day) limit window n ∧ rm (soonW window ls ds name day) limit window n ≤ limit) :
    Calls Try.prog 36 #[.agg #[.int .i64 names, .int .i64 limit, .int .i64 window, .slice A0 ls.length c0, .slice A1 ds.length c1], .int .i64 name, .int .i64 day, .int .i64 cents] w fun e w' =>
      e = .returned (.tuple #[.int .i64 (soonF (soonW window ls ds name day) limit window day (4001 - day).toNat 0 cents).1, .int .i64 (soonF (soonW window ls ds name day) limit window day (4001 - day).toNat 0 cents).2]) ∧ Below w.heap.size w w' := by
  obtain ⟨R, hR⟩ : ∃ R, R = soonF (soonW window ls ds name day) limit window day (4001 - day).toNat 0 cents := ⟨_, rfl⟩
  rw [← hR]
  have hok : DayOk names limit window ls ds name day (inB cents 0 100000000) := dayE_ok h0
  have hcb := inB_true (n := cents) (a := 0) (b := 100000000) (by rw [hok.fine]; simp)
  have HT : Hid (dayE names limit window ls ds name day (inB cents 0 100000000) = 0) := h0
  have HC : Hid (inB cents 0 100000000 = true) := hok.fine
  have hL : Below w.heap.size w (w.alloc (.cells #[.int .i64 names, .int .i64 limit, .int .i64 window, .slice A0 ls.length c0, .slice A1 ds.length c1] 48)) := below_alloc (Below.refl _ _) _
  obtain ⟨W0, hW0⟩ : ∃ W0, W0 = w.alloc (.cells #[.int .i64 names, .int .i64 limit, .int .i64 window, .slice A0 ls.length c0, .slice A1 ds.length c1] 48) := ⟨_, rfl⟩
  have b0 : Blk W0 w.heap.size 48 #[.int .i64 names, .int .i64 limit, .int .i64 window, .slice A0 ls.length c0, .slice A1 ds.length c1] := by rw [hW0]; exact blk_new _ _ _
  rw [← hW0] at hL
  have hmm := @run_makeMap Try.prog
  go_enter Try.func36, Try.ntmps36
  go_wp2
  rw [← hW0]
  clear hW0
  have hl0 := Kd.C_below hl hL
  have hd0 := Kd.C_below hd hL
  have e0 := ext_cell (b0.cell 0 rfl)
  have e1 := ext_cell (b0.cell 1 rfl)
  have e2 := ext_cell (b0.cell 2 rfl)
  have e3 := ext_cell (b0.cell 3 rfl)
  have e4 := ext_cell (b0.cell 4 rfl)
  refine wp_region_ext (by kernel_rfl) (by kernel_rfl) ?_
  repeat (gi_big_quiet_step ((rename_i x; first
    | exact callsIn_wide.2 ((in_any cents 0 100000000 x.1).mono fun e w' h => ⟨h.1, x, h.2⟩)
    | exact callsIn_wide.2 ((day_any names limit window A0 c0 ls A1 c1 ds name day (inB cents 0 100000000) x.1 (Kd.C_below hl0 x.2) hlc (Kd.C_below hd0 x.2)).mono fun e w' h => ⟨h.1.trans (by rw [HT.out]), ext_go h.2⟩))))
  refine wpQuietIn_nil ?_
  rintro W2 ⟨⟨_, hx⟩, rfl⟩
  replace b0 := b0.below hx b0.lt
  replace hl0 := Kd.C_below hl0 hx
  replace hd0 := Kd.C_below hd0 hx
  have hB2 : Below w.heap.size w W2 := hL.trans (hx.mono hL.size)
  clear e0 e1 e2 e3 e4 hx hL
  have e0 := b0.cell 0 rfl
  have e1 := b0.cell 1 rfl
  have e2 := b0.cell 2 rfl
  have e3 := b0.cell 3 rfl
  have e4 := b0.cell 4 rfl
  have HI : ∀ ys : List Bool, Hid (ys.length = 64 → (Try.prog.info? 134).map (·.size) = some (boolCells ys).size) := fun ys h => by rw [boolCells_size, h]; exact info134
  have h64 : Hid (zeros64.length = 64) := by show zeros64.length = 64; simp [zeros64]
  go_wp2_with (first
    | (go_at_call 87; refine (tiesOf_any names limit window A0 c0 ls (.slice A1 ds.length c1) true _ hl0 hok.till.links hok.till.n8).mono ?_; rintro e W3 ⟨rfl, hB3⟩; have b3 := b0.below hB3 b0.lt; have BB3 := hB2.trans (hB3.mono hB2.size))
    | ((with_reducible refine gate_dst (N := 11) rfl ?_); refine box_event rfl (N := 11) rfl (cs := boolCells zeros64) (t := 134) (alloc134 _ _ rfl _) ?_; intro g4 hg4 W4 hb4 hB4; have b4 := b3.below hB4 b3.lt; have z4 : Blk W4 g4 134 (boolCells zeros64) := hb4; have hg4' : w.heap.size < g4 := (by rw [hg4]; exact b3.lt); have BB4 := BB3.trans (hB4.mono BB3.size); clear hb4 hg4)
    | ((with_reducible refine gate_store (t := 134) (p := 11) rfl ?_); refine ev_store_row rfl 134 _ _ rfl rfl g4 (boolCells (tiesL true ls)) rfl rfl (t := 134) (old := boolCells zeros64) z4 ((HI _).out (tiesL_len _ _)) (by rw [boolCells_size, boolCells_size, h64.out, tiesL_len]) (boolCells_one _) ?_; intro W5 hb5 hg5; have b5 := b4.grown hg5 (by simp; omega); have BB5 := BB4.grown hg5 (by have := BB4.size; omega) (fun j e => by cases e; omega)))
  skip
  have hw1 := hok.till.w1
  have hw2 := hok.till.w2
  have hl0' := hok.till.l0
  have hl1' := hok.till.l1
  have hn0 := hok.n0
  have hn8 : name < 8 := by have := hok.n1; have := hok.till.n8; omega
  have hd0' := hok.d0
  have hd1' := hok.d1
  have hcl := cashI_len ds ds.length
  have hfew := hok.till.fewd
  obtain ⟨Wn, hWn⟩ : ∃ Wn, Wn = soonW window ls ds name day := ⟨_, rfl⟩
  have HWN : Hid (Wn = soonW window ls ds name day) := hWn
  rw [← hWn] at hbd hR
  have hbd2 : Hid (∀ n : Nat, 0 ≤ rm Wn limit window n ∧ rm Wn limit window n ≤ limit) := hbd
  have HR : Hid (R = soonF Wn limit window day (4001 - day).toNat 0 cents) := hR
  have HW : Hid (∀ n : Nat, 0 ≤ Wn n ∧ Wn n ≤ 2000000000) := fun n => by
    have := sumWin_bounds (tiesL true ls) names window name (day + n) ds hok.till.dues (cashI ds ds.length)
    rw [hWn]
    unfold soonW
    omega
  clear hbd hR hWn hcl hfew e0 e1 e2 e3 e4
  have hM : IMap (W5.alloc (.map #[] 0)) W5.heap.size 0 (fun _ _ => none) := imap_made rfl
  have z5 : Blk (W5.alloc (.map #[] 0)) g4 134 (boolCells (tiesL true ls)) := hb5.alloc _
  have b6 := b5.alloc (.map #[] 0)
  have BB6 : Below w.heap.size w (W5.alloc (.map #[] 0)) := below_alloc' BB5 _
  have hg6 : w.heap.size < W5.heap.size := b5.lt
  have hg46 : g4 < W5.heap.size := hb5.lt
  generalize W5.alloc (.map #[] 0) = W6 at *
  generalize W5.heap.size = g6 at *
  go_loopw [13, 3] (fun vd vc wr => ∃ (n : Nat) (c : Int), vd = .int .i64 (day + n) ∧ vc = .int .i64 c ∧ (day + n ≤ 4001) ∧ 0 ≤ c ∧ c ≤ 100000000 ∧ Hid (R = soonF Wn limit window day (4001 - (day + n)).toNat n c) ∧ Blk wr w.heap.size 48 #[.int .i64 names, .int .i64 limit, .int .i64 window, .slice A0 ls.length c0, .slice A1 ds.length c1] ∧ Blk wr g4 134 (boolCells (tiesL true ls)) ∧ (∃ m, IMap wr g6 n m ∧ Hid (∀ i : Int, W64 (day + i) → (m name (day + i)).getD 0 = gAt (rmS Wn limit window n) i)) ∧ Below w.heap.size w wr) (fun vd _ _ => (4001 - intOf vd).toNat)
  · exact ⟨0, cents, by simp, rfl, by simp; omega, hcb.1, hcb.2, by show R = _; rw [HR.out]; simp, b6, z5, ⟨_, hM, fun i _ => by simp [gAt, rmS]⟩, BB6⟩
  · obtain ⟨n, c, rfl, rfl, hdn, hc0, hc1, HF, q0, q4, ⟨m, qm, HG⟩, qB⟩ := hrel
    by_cases hle : day + (n : Int) ≤ 4000
    · have hf1 : (4001 - (day + (n : Int))).toNat = (4000 - (day + (n : Int))).toNat + 1 := by omega
      have HF2 : Hid (R = if c ≤ rm Wn limit window n then (day + n, 0) else soonF Wn limit window day (4000 - (day + (n : Int))).toNat (n + 1) (c - rm Wn limit window n)) := by
        show R = _
        rw [HF.out, hf1]; rfl
      clear HF hf1
      have hql := Kd.C_below hl qB
      have hqd := Kd.C_below hd qB
      have hs := HW.out n
      obtain ⟨s, hsd⟩ : ∃ s, s = Wn n := ⟨_, rfl⟩
      have HS : Hid (s = Wn n) := hsd
      rw [← hsd] at hs
      clear hsd
      have hs0 := hs.1
      have hs1 := hs.2
      clear hs
      have e0 := ext_cell (q0.cell 0 rfl)
      have e1 := ext_cell (q0.cell 1 rfl)
      have e2 := ext_cell (q0.cell 2 rfl)
      have e3 := ext_cell (q0.cell 3 rfl)
      have e4 := ext_cell (q0.cell 4 rfl)
      have hwr : IntKind.i64.wrap (limit - s) = limit - s := IntWalk.i64_in _ (by omega)
      go_wp2
      refine wp_region_ext (by kernel_rfl) (by kernel_rfl) ?_
      repeat (first
        | (gi_big_quiet_want; refine quietIn_load_row 134 _ rfl g4 rfl q4 Try.underlying134 rfl ((HI _).out (tiesL_len _ _)) ?_; go_big_quiet_on; simp only [Act.put, List.setIfInBounds_toArray, List.set_cons_succ, List.set_cons_zero])
        | gi_big_quiet_step ((rename_i x; exact callsIn_wide.2 ((within_any names limit window _ _ A1 c1 ds (tiesL true ls) name (day + n) x.1 (Kd.C_below hqd x.2) (tiesL_len _ _) hn0 hn8 hw1 hw2 (by omega) hle hok.till.dues hok.till.n8 (by have := hok.till.fewd; omega)).mono fun e w' h => ⟨h.1.trans (by rw [show sumWin (tiesL true ls) window name (day + n) ds (cashI ds ds.length) = s by rw [HS.out, HWN.out]; rfl]), ext_go h.2⟩))))
      refine wpQuietIn_nil ?_
      rintro W2' ⟨⟨_, hx⟩, rfl⟩
      replace q0 := q0.below hx q0.lt
      replace q4 := q4.below hx q4.lt
      replace qm := qm.below hx qm.lt
      replace qB := qB.trans (hx.mono qB.size)
      clear e0 e1 e2 e3 e4 hx hwr
      have e2 := q0.cell 2 rfl
      go_wp2
      have HB := fun i => gAt_bounds (Wn := Wn) (window := window) hl0' hbd2.out n i
      go_loop [15, 14] (fun vk vr => ∃ (j : Nat) (r : Int), (j : Int) ≤ window - 1 ∧ vk = .int .i64 (day + ((n : Int) - window + 1 + j)) ∧ vr = .int .i64 r ∧ r ≤ 100000000 ∧ -2000000000 - 100000000 * (j : Int) ≤ r ∧ Hid (r = rmFold window (rmS Wn limit window n) n (limit - s) (List.range j))) (fun vk _ => (day + n - intOf vk).toNat)
      · exact ⟨0, limit - s, by omega, by go_num, rfl, by omega, by omega, by show _ = _; rfl⟩
      · obtain ⟨j, r, hj, rfl, rfl, hr1, hr0, HRM⟩ := hrel
        by_cases hj2 : (j : Int) < window - 1
        · have hG1 := HG.out ((n : Int) - window + 1 + j) ⟨by omega, by omega⟩
          have hgb := HB ((n : Int) - window + 1 + j)
          obtain ⟨g, hg⟩ : ∃ g, g = gAt (rmS Wn limit window n) ((n : Int) - window + 1 + j) := ⟨_, rfl⟩
          rw [← hg] at hG1 hgb
          have HGG : Hid (g = gAt (rmS Wn limit window n) ((n : Int) - window + 1 + j)) := hg
          clear hg HB
          have hgb0 := hgb.1
          have hgb1 := hgb.2
          clear hgb
          go_wp2_with (at_lookup; refine p_look rfl _ _ rfl (b := g6) rfl qm (x := name) (y := day + ((n : Int) - window + 1 + j)) ⟨by omega, by omega⟩ ⟨by omega, by omega⟩ rfl ?_; rw [hG1])
          refine ⟨⟨j + 1, r - g, by omega, by rw [show day + ((n : Int) - window + 1 + (j : Int)) + 1 = day + ((n : Int) - window + 1 + ((j + 1 : Nat) : Int)) by push_cast; omega], rfl, by omega, by push_cast; omega, ?_⟩, by simp [intOf]; omega⟩
          show r - g = _
          rw [rmFold_snoc, ← HRM.out, ← HGG.out]
        · have hjw : (j : Int) = window - 1 := by omega
          have HE : Hid (r = rm Wn limit window n) := by
            show r = _
            rw [HRM.out, rm, rmNext, HS.out, show (window - 1).toNat = j by omega]
          clear hjw HB
          by_cases hc : c ≤ r
          · go_wp2
            go_ret2
            exact ⟨by rw [HF2.out, if_pos (by rw [← HE.out]; exact hc)]; rfl, qB⟩
          · go_wp2_with (at_mapUpdate; refine p_put rfl _ _ _ rfl (b := g6) rfl qm (by omega) (x := name) (y := day + (n : Int)) (v := r) ⟨by omega, by omega⟩ ⟨by omega, by omega⟩ ⟨by omega, by omega⟩ rfl rfl ?_; intro W7 q7 hg7)
            have hrn := hbd2.out n
            rw [← HE.out] at hrn
            refine ⟨⟨n + 1, c - r, by rw [show day + (n : Int) + 1 = day + ((n + 1 : Nat) : Int) by push_cast; omega], rfl, by push_cast; omega, by omega, by omega, ?_, q0.grown hg7 (by simp; omega), q4.grown hg7 (by simp; omega), ⟨_, q7, fun i hi => ?_⟩, qB.grown hg7 (by have := qB.size; omega) (fun j e => by cases e; omega)⟩, by simp [intOf]; omega⟩
            · show R = _
              rw [HF2.out, if_neg (by rw [← HE.out]; exact hc), ← HE.out, show (4001 - (day + ((n + 1 : Nat) : Int))).toNat = (4000 - (day + (n : Int))).toNat by push_cast; omega]
            · by_cases hin : i = n
              · subst hin
                rw [gAt_last, ← HE.out]
                simp [mput]
              · rw [gAt_next n i hin, ← HG.out i hi]
                have : ¬ (name = name ∧ day + i = day + (n : Int)) := fun h => hin (by omega)
                rw [mput, if_neg this]
    · have hf0 : (4001 - (day + (n : Int))).toNat = 0 := by omega
      have HF2 : Hid (R = (0, 12)) := by
        show R = _
        rw [HF.out, hf0]; rfl
      clear HF hf0
      go_wp2
      go_ret2
      exact ⟨by rw [HF2.out]; rfl, qB⟩
end Go.Proofs.Ytkdlbocjgbmbdaa.Print

namespace Go.Proofs.Ytkdlbocjgbmbdaa.Print
open Go.RowKit Go.Shelf Go.Proofs.YtkdlbocjgbmbdaaW.PrintWords
set_option linter.unusedVariables false
attribute [local go_sem] Oper.semAt_some
attribute [local go_sem] wide_fn wide_asked
def sumG (G : Int → Int) (a : Int) : Nat → Int
  | 0 => 0
  | k + 1 => sumG G a k + G (a + k)
theorem sumG_shift (G : Int → Int) : ∀ (k : Nat) (a : Int), sumG G a (k + 1) = G a + sumG G (a + 1) k
  | 0, a => by simp [sumG]
  | k + 1, a => by
    rw [sumG, sumG_shift G k a, sumG]
    have : a + 1 + (k : Int) = a + ((k + 1 : Nat) : Int) := by push_cast; omega
    rw [this]
    omega
theorem sumG_congr {G H : Int → Int} {a : Int} : ∀ (k : Nat), (∀ j : Nat, j < k → G (a + j) = H (a + j)) → sumG G a k = sumG H a k
  | 0, _ => rfl
  | k + 1, h => by rw [sumG, sumG, sumG_congr k (fun j hj => h j (by omega)), h k (by omega)]
theorem sumG_nonneg {G : Int → Int} {a : Int} : ∀ (k : Nat), (∀ j : Nat, j < k → 0 ≤ G (a + j)) → 0 ≤ sumG G a k
  | 0, _ => Int.le_refl _
  | k + 1, h => by
    rw [sumG]
    have := sumG_nonneg k (fun j hj => h j (by omega))
    have := h k (by omega)
    omega
section
variable (Wn : Nat → Int) (limit window : Int)
theorem rmFold_sum (prev : List Int) (n : Nat) (s : Int) : ∀ k : Nat, rmFold window prev n s (List.range k) = s - sumG (gAt prev) ((n : Int) - window + 1) k
  | 0 => by simp [rmFold, sumG]
  | k + 1 => by rw [rmFold_snoc, rmFold_sum prev n s k, sumG]; omega
def Gu (i : Int) : Int := if 0 ≤ i then rm Wn limit window i.toNat else 0
theorem rm_sum (n : Nat) (hw : 1 ≤ window) : rm Wn limit window n = limit - Wn n - sumG (Gu Wn limit window) ((n : Int) - window + 1) (window - 1).toNat := by
  rw [rm, rmNext, rmFold_sum]
  congr 1
  refine sumG_congr _ fun j hj => ?_
  by_cases h0 : 0 ≤ (n : Int) - window + 1 + j
  · rw [gAt_in n _ h0 (by omega), Gu, if_pos h0]
  · rw [gAt_out n _ (Or.inl (by omega)), Gu, if_neg h0]
theorem rm_bounds (hw : 1 ≤ window) (hW0 : ∀ n, 0 ≤ Wn n) (hWd : ∀ n, Wn (n + 1) ≤ Wn n) (hW : Wn 0 ≤ limit) : ∀ n, 0 ≤ rm Wn limit window n ∧ rm Wn limit window n ≤ limit := by
  have hdec : ∀ n, Wn n ≤ Wn 0 := fun n => by
    induction n with
    | zero => exact Int.le_refl _
    | succ n ih => exact Int.le_trans (hWd n) ih
  intro n
  induction n using Nat.strongRecOn with
  | _ n ih =>
    have hG : ∀ i : Int, i < n → 0 ≤ Gu Wn limit window i := fun i hi => by
      unfold Gu
      split
      · exact (ih i.toNat (by omega)).1
      · exact Int.le_refl _
    have hs : 0 ≤ sumG (Gu Wn limit window) ((n : Int) - window + 1) (window - 1).toNat := sumG_nonneg _ fun j hj => hG _ (by omega)
    have hn := rm_sum Wn limit window n hw
    have h1 := hW0 n
    refine ⟨?_, by omega⟩
    cases n with
    | zero =>
      have : sumG (Gu Wn limit window) (((0 : Nat) : Int) - window + 1) (window - 1).toNat = 0 := by
        have : sumG (Gu Wn limit window) (((0 : Nat) : Int) - window + 1) (window - 1).toNat = sumG (fun _ => 0) (((0 : Nat) : Int) - window + 1) (window - 1).toNat := sumG_congr _ fun j hj => by
          unfold Gu
          rw [if_neg (by omega)]
        rw [this]
        generalize (window - 1).toNat = k
        induction k with
        | zero => rfl
        | succ k ihk => rw [sumG, ihk]; rfl
      omega
    | succ n =>
      have hp := rm_sum Wn limit window n hw
      cases hk : (window - 1).toNat with
      | zero =>
        rw [hk] at hn
        simp only [sumG] at hn
        have := hdec (n + 1)
        omega
      | succ k =>
        rw [hk] at hn hp
        rw [sumG_shift] at hp
        rw [sumG] at hn
        have e1 : ((n + 1 : Nat) : Int) - window + 1 = (n : Int) - window + 1 + 1 := by push_cast; omega
        have e2 : (n : Int) - window + 1 + 1 + (k : Int) = (n : Int) := by omega
        rw [e1, e2] at hn
        have e3 : Gu Wn limit window (n : Int) = rm Wn limit window n := by unfold Gu; rw [if_pos (by omega), Int.toNat_natCast]
        rw [e3] at hn
        have h2 := hG ((n : Int) - window + 1) (by omega)
        have h3 := hWd n
        omega
end
section
variable {names limit window : Int} {ls : List S84} {ds : List S61}
theorem days_rise (h : ∀ i, i + 1 < ds.length → (ds.getD i z61).f0 ≤ (ds.getD (i + 1) z61).f0) : ∀ j i, i ≤ j → j < ds.length → (ds.getD i z61).f0 ≤ (ds.getD j z61).f0 := by
  intro j
  induction j with
  | zero =>
    intro i hi _
    have : i = 0 := by omega
    rw [this]
    exact Int.le_refl _
  | succ j ih =>
    intro i hi hj
    by_cases he : i = j + 1
    · subst he; exact Int.le_refl _
    · exact Int.le_trans (ih i (by omega) (by omega)) (h j hj)
theorem day_max (f : Fin ds.length → Int) : ∀ (l : List (Fin ds.length)), l ≠ [] → ∃ i ∈ l, ∀ j ∈ l, f j ≤ f i
  | [], h => absurd rfl h
  | [i], _ => ⟨i, by simp, fun j hj => by simp at hj; subst hj; exact Int.le_refl _⟩
  | i :: k :: l, _ => by
    obtain ⟨m, hm, hmax⟩ := day_max f (k :: l) (by simp)
    by_cases h : f m ≤ f i
    · refine ⟨i, by simp, fun j hj => ?_⟩
      rcases List.mem_cons.1 hj with rfl | hj
      · exact Int.le_refl _
      · exact Int.le_trans (hmax j hj) h
    · refine ⟨m, List.mem_cons_of_mem _ hm, fun j hj => ?_⟩
      rcases List.mem_cons.1 hj with rfl | hj
      · omega
      · exact hmax j hj
theorem sumWin_le (xs : List Bool) (name d e : Int) (hds : ∀ d ∈ ds, OkDue names d) (l : List (Fin ds.length)) (h : ∀ i ∈ l, inWin xs window name d ds[i] = true → inWin xs window name e ds[i] = true) : sumWin xs window name d ds l ≤ sumWin xs window name e ds l := by
  have : ∀ (l : List (Fin ds.length)) (s s' : Int), (∀ i ∈ l, inWin xs window name d ds[i] = true → inWin xs window name e ds[i] = true) → s ≤ s' → l.foldl (fun s i => winStep xs window name d s ds[i]) s ≤ l.foldl (fun s i => winStep xs window name e s ds[i]) s' := by
    intro l
    induction l with
    | nil => intro s s' _ h; exact h
    | cons i l ih =>
      intro s s' hi hs
      simp only [List.foldl_cons]
      refine ih _ _ (fun j hj => hi j (List.mem_cons_of_mem _ hj)) ?_
      have h1 := hi i (by simp)
      have h2 := (hds ds[i] (List.getElem_mem _)).cents0
      unfold winStep
      split
      · rename_i g
        rw [if_pos (h1 g)]
        omega
      · split <;> omega
  exact this l 0 0 h (Int.le_refl _)
theorem soon_bounds {name day : Int} {fine : Bool} (h : DayOk names limit window ls ds name day fine) : ∀ n : Nat, 0 ≤ rm (soonW window ls ds name day) limit window n ∧ rm (soonW window ls ds name day) limit window n ≤ limit := by
  have hT := h.till
  have hday : ∀ i : Fin ds.length, ds[i].f0 ≤ day := fun i => by
    have hlt := i.isLt
    have h1 := days_rise hT.rising (ds.length - 1) i.1 (by omega) (by omega)
    have h2 := h.late (by omega)
    rw [List.getD_eq_getElem?_getD, List.getElem?_eq_getElem i.2] at h1
    exact Int.le_trans h1 h2
  refine rm_bounds _ limit window hT.w1 (fun n => (sumWin_bounds _ names window name _ ds hT.dues _).1) (fun n => ?_) ?_
  · refine sumWin_le _ _ _ _ hT.dues _ fun i _ hi => ?_
    unfold inWin at hi ⊢
    simp only [Bool.and_eq_true, decide_eq_true_eq] at hi ⊢
    have := hday i
    refine ⟨hi.1, ?_, ?_⟩
    · have := hi.2.1; push_cast at this; omega
    · omega
  · by_cases hne : cashI ds ds.length = []
    · unfold soonW
      rw [hne]
      exact hT.l0
    · obtain ⟨i, hi, hmax⟩ := day_max (fun i => ds[i].f0) _ hne
      have hk := h.kept
      unfold keptT keptI at hk
      have h1 := List.all_eq_true.1 (List.all_eq_true.1 hk i hi) name.toNat (List.mem_range.2 (by have := h.n0; have := h.n1; omega))
      have e : ((name.toNat : Nat) : Int) = name := by have := h.n0; omega
      rw [e] at h1
      refine Int.le_trans ?_ (of_decide_eq_true h1)
      refine sumWin_le _ _ _ _ hT.dues _ fun j hj hjw => ?_
      unfold inWin at hjw ⊢
      simp only [Bool.and_eq_true, decide_eq_true_eq] at hjw ⊢
      have := hday i
      have := hmax j hj
      refine ⟨hjw.1, ?_, this⟩
      have := hjw.2.1
      push_cast at this
      omega
set_option maxRecDepth 100000 in
set_option maxHeartbeats 8000000 in
theorem soon_any (names limit window : Int) (A0 : Option Addr) (c0 : Nat) (ls : List S84) (A1 : Option Addr) (c1 : Nat) (ds : List S61) (name day cents : Int) (w : World)
    (hl : Kd.C k84 w A0 ls.length ls) (hlc : ls.length ≤ c0) (hd : Kd.C k61 w A1 ds.length ds) :
    Calls Try.prog 36 #[.agg #[.int .i64 names, .int .i64 limit, .int .i64 window, .slice A0 ls.length c0, .slice A1 ds.length c1], .int .i64 name, .int .i64 day, .int .i64 cents] w fun e w' =>
      e = .returned (.tuple #[.int .i64 (soonR names limit window ls ds name day cents).1, .int .i64 (soonR names limit window ls ds name day cents).2]) ∧ Below w.heap.size w w' := by
  by_cases h0 : soonE names limit window ls ds name day cents = 0
  · have := soon_main names limit window A0 c0 ls A1 c1 ds name day cents w hl hlc hd h0 (soon_bounds (dayE_ok h0))
    rw [soonR, if_neg (by simpa using h0)]
    exact this
  · obtain ⟨t, ht⟩ : ∃ t, t = soonE names limit window ls ds name day cents := ⟨_, rfl⟩
    rw [soonR, if_pos h0, ← ht]
    rw [← ht] at h0
    have HT : Hid (t = dayE names limit window ls ds name day (inB cents 0 100000000)) := ht
    clear ht
    have hL : Below w.heap.size w (w.alloc (.cells #[.int .i64 names, .int .i64 limit, .int .i64 window, .slice A0 ls.length c0, .slice A1 ds.length c1] 48)) := below_alloc (Below.refl _ _) _
    obtain ⟨W0, hW0⟩ : ∃ W0, W0 = w.alloc (.cells #[.int .i64 names, .int .i64 limit, .int .i64 window, .slice A0 ls.length c0, .slice A1 ds.length c1] 48) := ⟨_, rfl⟩
    have b0 : Blk W0 w.heap.size 48 #[.int .i64 names, .int .i64 limit, .int .i64 window, .slice A0 ls.length c0, .slice A1 ds.length c1] := by rw [hW0]; exact blk_new _ _ _
    rw [← hW0] at hL
    go_enter Try.func36, Try.ntmps36
    go_wp2
    rw [← hW0]
    clear hW0
    have hl0 := Kd.C_below hl hL
    have hd0 := Kd.C_below hd hL
    have e0 := ext_cell (b0.cell 0 rfl)
    have e1 := ext_cell (b0.cell 1 rfl)
    have e2 := ext_cell (b0.cell 2 rfl)
    have e3 := ext_cell (b0.cell 3 rfl)
    have e4 := ext_cell (b0.cell 4 rfl)
    refine wp_region_ext (by kernel_rfl) (by kernel_rfl) ?_
    repeat (gi_big_quiet_step ((rename_i x; first
      | exact callsIn_wide.2 ((in_any cents 0 100000000 x.1).mono fun e w' h => ⟨h.1, x, h.2⟩)
      | exact callsIn_wide.2 ((day_any names limit window A0 c0 ls A1 c1 ds name day (inB cents 0 100000000) x.1 (Kd.C_below hl0 x.2) hlc (Kd.C_below hd0 x.2)).mono fun e w' h => ⟨h.1.trans (by rw [← HT.out]), ext_go h.2⟩))))
    refine wpQuietIn_nil ?_
    rintro W2 ⟨⟨_, hx⟩, rfl⟩
    go_wp2
    go_ret2
    exact ⟨rfl, hL.trans (hx.mono hL.size)⟩
end
end Go.Proofs.Ytkdlbocjgbmbdaa.Print

namespace Go.Proofs.Ytkdlbocjgbmbdaa.Print
open Go.RowKit Go.Shelf Go.Proofs.YtkdlbocjgbmbdaaW.PrintWords
set_option linter.unusedVariables false
attribute [local go_sem] Oper.semAt_some
attribute [local go_sem] wide_fn wide_asked
def badAt (all : Bool) (names limit window : Int) (ls : List S84) (ds : List S61) (i : Nat) : Bool := !keptI (tiesL all ls) names limit window (ds.take (i + 1))
def breach1 (all : Bool) (names limit window : Int) (ls : List S84) (ds : List S61) : Int := firstI (badAt all names limit window ls ds) ds.length
set_option maxRecDepth 100000 in
set_option maxHeartbeats 8000000 in
theorem breach1_any (names limit window : Int) (A0 : Option Addr) (c0 : Nat) (ls : List S84) (A1 : Option Addr) (c1 : Nat) (ds : List S61) (all : Bool) (Bx : Nat) (w : World)
    (hl : Kd.C k84 w A0 ls.length ls) (hd : Kd.C k61 w A1 ds.length ds) (hdc : ds.length ≤ c1) (hok : TillOk names limit window ls ds)
    (b0 : Blk w Bx 48 #[.int .i64 names, .int .i64 limit, .int .i64 window, .slice A0 ls.length c0, .slice A1 ds.length c1]) :
    Calls Try.prog 101 #[.bool all, .pointer (some ⟨Bx, 0, none⟩)] w fun e w' =>
      e = .returned (.int .i64 (breach1 all names limit window ls ds)) ∧ Below w.heap.size w w' := by
  obtain ⟨R, hR⟩ : ∃ R, R = breach1 all names limit window ls ds := ⟨_, rfl⟩
  rw [← hR]
  have HR : Hid (R = breach1 all names limit window ls ds) := hR
  clear hR
  have hmax := Kd.C_max hd
  have hfew := hok.fewd
  have e0 := b0.cell 0 rfl
  have e1 := b0.cell 1 rfl
  have e2 := b0.cell 2 rfl
  have e3 := b0.cell 3 rfl
  have e4 := b0.cell 4 rfl
  have HI : ∀ ys : List Bool, Hid (ys.length = 64 → (Try.prog.info? 134).map (·.size) = some (boolCells ys).size) := fun ys h => by rw [boolCells_size, h]; exact info134
  have h64 : Hid (zeros64.length = 64) := by show zeros64.length = 64; simp [zeros64]
  go_enter Try.func101, Try.ntmps101
  go_wp2_with (first
    | (go_at_call 87; refine (tiesOf_any names limit window A0 c0 ls (.slice A1 ds.length c1) all _ hl hok.links hok.n8).mono ?_; rintro e W3 ⟨rfl, hB3⟩; have b3 := b0.below hB3 b0.lt)
    | ((with_reducible refine gate_dst (N := 4) rfl ?_); refine box_event rfl (N := 4) rfl (cs := boolCells zeros64) (t := 134) (alloc134 _ _ rfl _) ?_; intro g4 hg4 W4 hb4 hB4; have b4 := b3.below hB4 b3.lt; have z4 : Blk W4 g4 134 (boolCells zeros64) := hb4; have hg4' : w.heap.size ≤ g4 := (by rw [hg4]; exact hB3.size); have BB4 := hB3.trans (hB4.mono hB3.size); have hbx := b0.lt; clear hb4 hg4)
    | ((with_reducible refine gate_store (t := 134) (p := 4) rfl ?_); refine ev_store_row rfl 134 _ _ rfl rfl g4 (boolCells (tiesL all ls)) rfl rfl (t := 134) (old := boolCells zeros64) z4 ((HI _).out (tiesL_len _ _)) (by rw [boolCells_size, boolCells_size, h64.out, tiesL_len]) (boolCells_one _) ?_; intro W5 hb5 hg5; have b5 := b4.grown hg5 (by simp; omega); have BB5 := BB4.grown hg5 (by have := BB4.size; omega) (fun j e => by cases e; omega); have f4 := b5.cell 4 rfl))
  clear e0 e1 e2 e3 e4
  go_loopw [12] (fun vi wr => ∃ k : Nat, k ≤ ds.length ∧ vi = .int .i64 k ∧ Hid (∀ j, j < k → badAt all names limit window ls ds j = false) ∧ Blk wr Bx 48 #[.int .i64 names, .int .i64 limit, .int .i64 window, .slice A0 ls.length c0, .slice A1 ds.length c1] ∧ Blk wr g4 134 (boolCells (tiesL all ls)) ∧ Below w.heap.size w wr) (fun vi _ => ds.length - (intOf vi).toNat)
  · exact ⟨0, by omega, rfl, fun j hj => by omega, b5, hb5, BB5⟩
  · obtain ⟨k, hk, rfl, HN, q0, q4, qB⟩ := hrel
    by_cases hlt : k < ds.length
    · have hqd := Kd.C_below hd qB
      have htk := kC_take hqd (k + 1) (by omega)
      have htl : (ds.take (k + 1)).length = k + 1 := by simp; omega
      have e0 := ext_cell (q0.cell 0 rfl)
      have e1 := ext_cell (q0.cell 1 rfl)
      have e2 := ext_cell (q0.cell 2 rfl)
      have e3 := ext_cell (q0.cell 3 rfl)
      have e4 := ext_cell (q0.cell 4 rfl)
      have hwr : IntKind.i64.wrap ((k : Int) + 1) = (k : Int) + 1 := IntWalk.i64_in _ (by omega)
      have HKK : Hid (∀ x : Ext wr, Calls Try.prog 92 #[.agg #[.int .i64 names, .int .i64 limit, .int .i64 window, .slice A0 ls.length c0, .slice A1 ds.length c1], .slice A1 (k + 1) c1, .agg (boolCells (tiesL all ls))] x.1 fun e w' => e = .returned (.bool (keptI (tiesL all ls) names limit window (ds.take (k + 1)))) ∧ Below x.1.heap.size x.1 w') := fun x => by
        have := kept_any names limit window (.slice A0 ls.length c0) (.slice A1 ds.length c1) A1 c1 (ds.take (k + 1)) (tiesL all ls) x.1 (by rw [htl]; exact Kd.C_below htk x.2) (tiesL_len _ _) hok.w1 hok.w2 (fun d h => hok.dues d (List.mem_of_mem_take h)) (by have := hok.n1; omega) hok.n8 (by rw [htl]; omega)
        rw [htl] at this
        exact this
      clear htl
      cases hbad : keptI (tiesL all ls) names limit window (ds.take (k + 1)) with
      | true =>
        go_wp2
        refine wp_region_ext (by kernel_rfl) (by kernel_rfl) ?_
        repeat (first
          | (gi_big_quiet_want; refine quietIn_load_row 134 _ rfl g4 rfl q4 Try.underlying134 rfl ((HI _).out (tiesL_len _ _)) ?_; go_big_quiet_on; simp only [Act.put, List.setIfInBounds_toArray, List.set_cons_succ, List.set_cons_zero])
          | gi_big_quiet_step ((rename_i x; exact callsIn_wide.2 ((HKK.out x).mono fun e w' h => ⟨h.1.trans (by rw [hbad]), ext_go h.2⟩))))
        refine wpQuietIn_nil ?_
        rintro W2 ⟨⟨_, hx⟩, rfl⟩
        go_wp2
        refine ⟨⟨k + 1, by omega, by push_cast; rfl, fun j hj => ?_, q0.below hx q0.lt, q4.below hx q4.lt, qB.trans (hx.mono qB.size)⟩, by simp [intOf]; omega⟩
        by_cases hjk : j = k
        · subst hjk
          rw [badAt, hbad]; rfl
        · exact HN.out j (by omega)
      | false =>
        go_wp2
        refine wp_region_ext (by kernel_rfl) (by kernel_rfl) ?_
        repeat (first
          | (gi_big_quiet_want; refine quietIn_load_row 134 _ rfl g4 rfl q4 Try.underlying134 rfl ((HI _).out (tiesL_len _ _)) ?_; go_big_quiet_on; simp only [Act.put, List.setIfInBounds_toArray, List.set_cons_succ, List.set_cons_zero])
          | gi_big_quiet_step ((rename_i x; exact callsIn_wide.2 ((HKK.out x).mono fun e w' h => ⟨h.1.trans (by rw [hbad]), ext_go h.2⟩))))
        refine wpQuietIn_nil ?_
        rintro W2 ⟨⟨_, hx⟩, rfl⟩
        go_wp2
        go_ret
        exact ⟨by rw [HR.out, breach1, firstI_yes _ k (by rw [badAt, hbad]; rfl) HN.out _ hlt]; rfl, qB.trans (hx.mono qB.size)⟩
    · obtain hkk : k = ds.length := by omega
      have hlt' : ¬ (k : Int) < (ds.length : Int) := by omega
      have HE : Hid (R = -1) := by
        show R = -1
        rw [HR.out, breach1, ← hkk, firstI_no _ _ HN.out]
      clear hkk
      go_wp2
      go_ret
      exact ⟨by rw [HE.out]; rfl, qB⟩
def breachR (names limit window : Int) (ls : List S84) (ds : List S61) : Int × Int × Int :=
  if tillE names limit window ls ds ≠ 0 then (0, 0, tillE names limit window ls ds) else (breach1 true names limit window ls ds, breach1 false names limit window ls ds, 0)
set_option maxRecDepth 100000 in
set_option maxHeartbeats 8000000 in
theorem breach_any (names limit window : Int) (A0 : Option Addr) (c0 : Nat) (ls : List S84) (A1 : Option Addr) (c1 : Nat) (ds : List S61) (w : World)
    (hl : Kd.C k84 w A0 ls.length ls) (hlc : ls.length ≤ c0) (hd : Kd.C k61 w A1 ds.length ds) (hdc : ds.length ≤ c1) :
    Calls Try.prog 51 #[.agg #[.int .i64 names, .int .i64 limit, .int .i64 window, .slice A0 ls.length c0, .slice A1 ds.length c1]] w fun e w' =>
      e = .returned (.tuple #[.int .i64 (breachR names limit window ls ds).1, .int .i64 (breachR names limit window ls ds).2.1, .int .i64 (breachR names limit window ls ds).2.2]) ∧ Below w.heap.size w w' := by
  obtain ⟨t, ht⟩ : ∃ t, t = tillE names limit window ls ds := ⟨_, rfl⟩
  obtain ⟨r, hr⟩ : ∃ r, r = breachR names limit window ls ds := ⟨_, rfl⟩
  have HT : Hid (t = tillE names limit window ls ds) := ht
  have hL : Below w.heap.size w (w.alloc (.cells #[.int .i64 names, .int .i64 limit, .int .i64 window, .slice A0 ls.length c0, .slice A1 ds.length c1] 48)) := below_alloc (Below.refl _ _) _
  rw [← hr]
  by_cases h0 : t = 0
  · have hok : TillOk names limit window ls ds := tillE_ok (by rw [← ht]; exact h0)
    rw [breachR, ← ht, if_neg (by simpa using h0)] at hr
    have HR : Hid (r = (breach1 true names limit window ls ds, breach1 false names limit window ls ds, 0)) := hr
    clear ht hr
    go_enter Try.func51, Try.ntmps51
    go_wp2_with (first
      | (go_at_call 73; refine (check73_any names limit window A0 c0 ls A1 c1 ds _ (Kd.C_below hl hL) hlc (Kd.C_below hd hL)).mono ?_; rintro e w1 ⟨rfl, hB⟩; rw [← HT.out, h0]; have b0 : Blk w1 w.heap.size 48 #[.int .i64 names, .int .i64 limit, .int .i64 window, .slice A0 ls.length c0, .slice A1 ds.length c1] := (blk_new w 48 _).below hB (by simp); have hB1 : Below w.heap.size w w1 := hL.trans (hB.mono (by simp)); have hl1 := Kd.C_below hl hB1; have hd1 := Kd.C_below hd hB1)
      | (go_at_call_of 101 (Value.bool true); refine (breach1_any names limit window A0 c0 ls A1 c1 ds true w.heap.size _ hl1 hd1 hdc hok b0).mono ?_; rintro e w2 ⟨rfl, hB2⟩; have b2 := b0.below hB2 b0.lt; have hl2 := Kd.C_below hl1 hB2; have hd2 := Kd.C_below hd1 hB2)
      | (go_at_call_of 101 (Value.bool false); refine (breach1_any names limit window A0 c0 ls A1 c1 ds false w.heap.size _ hl2 hd2 hdc hok b2).mono ?_; rintro e w3 ⟨rfl, hB3⟩))
    go_ret3
    exact ⟨by rw [HR.out]; rfl, (hB1.trans (hB2.mono hB1.size)).trans (hB3.mono (Nat.le_trans hB1.size hB2.size))⟩
  · rw [breachR, ← ht, if_pos h0] at hr
    subst hr
    clear ht
    go_enter Try.func51, Try.ntmps51
    go_wp2_with (go_at_call 73; refine (check73_any names limit window A0 c0 ls A1 c1 ds _ (Kd.C_below hl hL) hlc (Kd.C_below hd hL)).mono ?_; rintro e w1 ⟨rfl, hB⟩; rw [← HT.out])
    go_ret3
    exact ⟨rfl, hL.trans (hB.mono (by simp))⟩
end Go.Proofs.Ytkdlbocjgbmbdaa.Print

namespace Go.Proofs.Ytkdlbocjgbmbdaa.Print
open Go.RowKit Go.Shelf Go.Proofs.YtkdlbocjgbmbdaaW.PrintWords
set_option linter.unusedVariables false
attribute [local go_sem] Oper.semAt_some
attribute [local go_sem] wide_fn wide_asked
theorem value1_ok (gx ge : Nat) (u : FrameMode) (w : World) (he : Blk w ge 38 #[.int .i64 0]) :
    CallsD Try.prog 80 #[.pointer (some ⟨ge, 0, none⟩), .pointer (some ⟨gx, 0, none⟩)] u w fun e u' w' => u' = u ∧ (e = .returned (.tuple #[]) ∧ w' = w) := by
  have c0 := he.cell 0 rfl
  go_enter_d Try.func80, Try.ntmps80
  go_wp2
  go_end0
  exact ⟨rfl, rfl⟩
theorem value1_bad (gx ge : Nat) (t a b : Int) (ht : t ≠ 0) (u : FrameMode) (w : World) (hx : Blk w gx 24 #[.int .i64 a, .int .i64 b]) (he : Blk w ge 38 #[.int .i64 t]) :
    CallsD Try.prog 80 #[.pointer (some ⟨ge, 0, none⟩), .pointer (some ⟨gx, 0, none⟩)] u w fun e u' w' => u' = u ∧ (e = .returned (.tuple #[]) ∧ Blk w' gx 24 #[.int .i64 0, .int .i64 0] ∧ w.grownBy w' (some gx)) := by
  have c0 := he.cell 0 rfl
  have d0 := hx.cell 0 rfl
  have f0 := hx.frozen 0
  have hx1 := hx.set 0 (.int .i64 0)
  have d1 := hx1.cell 1 rfl
  have f1 := hx1.frozen 1
  have hx2 := hx1.set 1 (.int .i64 0)
  go_enter_d Try.func80, Try.ntmps80
  go_wp2
  go_end0
  refine ⟨rfl, hx2, ?_⟩
  exact ⟨rfl, rfl, rfl, by simp, fun k _ hk => (Below.heap_setCell _ _ _ k (fun e => hk (by rw [e]))).trans (Below.heap_setCell _ _ _ k (fun e => hk (by rw [e])))⟩
end Go.Proofs.Ytkdlbocjgbmbdaa.Print

namespace Go.Proofs.Ytkdlbocjgbmbdaa.Print
open Go.RowKit Go.Shelf Go.Proofs.YtkdlbocjgbmbdaaW.PrintWords
set_option linter.unusedVariables false
attribute [local go_sem] Oper.semAt_some
attribute [local go_sem] wide_fn wide_asked
def fixE (i : Nat) (prev f : S26) : Int := if inB f.f0 0 4000 = false then 1 else if inB f.f1 0 100000000 = false then 1 else if 0 < i ∧ f.f0 ≤ prev.f0 then 5 else 0
def z26' : S26 := ⟨0, 0⟩
def fixesE (fs : List S26) : Int := firstE (fun k => fixE k (fs.getD (k - 1) z26') (fs.getD k z26')) fs.length
def worth (k c share : Int) : Int := Int.tdiv (k * c * share) 1000000
def valF (day k0 k1 share : Int) (s : Int × Int × Int) (f : S26) : Int × Int × Int := if f.f0 ≤ day then (worth k0 f.f1 share, worth k1 f.f1 share, 0) else s
def valueE (fs : List S26) (day k0 k1 share : Int) : Int :=
  if (20 : Int) < fs.length then 6 else if fixesE fs ≠ 0 then fixesE fs else if inB day 0 4000 = false then 1 else if inB k0 0 1000000 = false then 1 else if inB k1 0 1000000 = false then 1
  else if k1 < k0 then 5 else if inB share 0 1000 = false then 1 else (fs.foldl (valF day k0 k1 share) (0, 0, 3)).2.2
def valueR (fs : List S26) (day k0 k1 share : Int) : Int × Int × Int :=
  if valueE fs day k0 k1 share ≠ 0 then (0, 0, valueE fs day k0 k1 share) else fs.foldl (valF day k0 k1 share) (0, 0, 3)
theorem results23 : Try.f23.results = #[.cell 8 24, .cell 9 38] := by kernel_rfl
theorem value_results {tmps : Array Value} {W : World} (gx ge : Nat) (t a b : Int) (hgx : tmps.getD 8 undef = .pointer (some ⟨gx, 0, none⟩)) (hge : tmps.getD 9 undef = .pointer (some ⟨ge, 0, none⟩)) (hx : Blk W gx 24 #[.int .i64 a, .int .i64 b]) (he : Blk W ge 38 #[.int .i64 t]) :
    (results Try.f23 tmps).run Try.prog W = .ok (.tuple #[.agg #[.int .i64 a, .int .i64 b], .int .i64 t]) W := by
  have hgx' : tmps[8]?.getD undef = .pointer (some ⟨gx, 0, none⟩) := by simpa using hgx
  have hge' : tmps[9]?.getD undef = .pointer (some ⟨ge, 0, none⟩) := by simpa using hge
  have c0 := he.cell 0 rfl
  have hlv : (loadVar 38 ⟨ge, 0, none⟩).run Try.prog W = .ok (.int .i64 t) W := by
    have := Try.underlying38
    simp [go_sem, c0]
  simp [results, results23, hgx', hge', asAddr, run_loadVar_row W gx 24 24 _ (0, 0) _ hx Try.underlying24 rfl (by kernel_rfl), hlv]
theorem value_leave {tmps : Array Value} {R : Ending → World → Prop} {W : World} (gx ge : Nat) (t a b : Int) (hgx : tmps.getD 8 undef = .pointer (some ⟨gx, 0, none⟩)) (hge : tmps.getD 9 undef = .pointer (some ⟨ge, 0, none⟩)) (hx : Blk W gx 24 #[.int .i64 a, .int .i64 b]) (he : Blk W ge 38 #[.int .i64 t]) (hne : gx ≠ ge)
    (h0 : t = 0 → R (.returned (.tuple #[.agg #[.int .i64 a, .int .i64 b], .int .i64 0])) W) (h1 : t ≠ 0 → ∀ W', W.grownBy W' (some gx) → R (.returned (.tuple #[.agg #[.int .i64 0, .int .i64 0], .int .i64 t])) W') :
    Leaves Try.prog Try.f23 tmps R [{ target := .fn (.func 80) #[.pointer (some ⟨ge, 0, none⟩), .pointer (some ⟨gx, 0, none⟩)], args := #[] }] .returning W := by
  by_cases ht : t = 0
  · subst ht
    refine leaves_cons (f := 80) (args := #[.pointer (some ⟨ge, 0, none⟩), .pointer (some ⟨gx, 0, none⟩)]) (by simp) (by simp [go_sem]) ?_
    refine (value1_ok gx ge .returning W he).mono ?_
    rintro e u' w'' ⟨rfl, rfl, rfl⟩
    exact ⟨_, value_results gx ge 0 a b hgx hge hx he, h0 rfl⟩
  · refine leaves_cons (f := 80) (args := #[.pointer (some ⟨ge, 0, none⟩), .pointer (some ⟨gx, 0, none⟩)]) (by simp) (by simp [go_sem]) ?_
    refine (value1_bad gx ge t a b ht .returning W hx he).mono ?_
    rintro e u' w'' ⟨rfl, rfl, hx', hg⟩
    exact ⟨_, value_results gx ge t 0 0 hgx hge hx' (he.grown hg (by simpa using fun h => hne h.symm)), h1 ht _ hg⟩
set_option maxRecDepth 100000 in
set_option maxHeartbeats 4000000 in
theorem value_long (A : Option Addr) (c : Nat) (fs : List S26) (day k0 k1 share : Int) (w : World) (h : (20 : Int) < fs.length) :
    Calls Try.prog 23 #[.slice A fs.length c, .int .i64 day, .agg #[.int .i64 k0, .int .i64 k1], .int .i64 share] w fun e w' =>
      e = .returned (.tuple #[.agg #[.int .i64 0, .int .i64 0], .int .i64 6]) ∧ Below w.heap.size w w' := by
  have hmf : ∀ (fn : Fn) (first cap : Array Value) (w : World), (Instr.makeFunc fn first cap).run Try.prog w = .ok (.func fn first cap) w := fun _ _ _ _ => rfl
  go_enter_defers Try.func23, Try.ntmps23
  go_wp2
  refine value_leave (w.heap.size + 1) (w.heap.size + 1 + 1) 6 0 0 rfl rfl ((blk_new' (by simp)).alloc _) (blk_new' (by simp)) (by omega) (fun h => by omega) (fun _ W' hg => ⟨rfl, ?_⟩)
  refine Below.grown ?_ hg (by simp; omega) (fun j e => by cases e; omega)
  repeat (first | exact Below.refl _ _ | refine below_alloc ?_ _)
end Go.Proofs.Ytkdlbocjgbmbdaa.Print

namespace Go.Proofs.Ytkdlbocjgbmbdaa.Print
open Go.RowKit Go.Shelf Go.Proofs.YtkdlbocjgbmbdaaW.PrintWords
set_option linter.unusedVariables false
attribute [local go_sem] Oper.semAt_some
attribute [local go_sem] wide_fn wide_asked
theorem rd_T26_at (fs : List S26) (k : Nat) (h : k < fs.length) : rd_T26 fs (k : Int) = fs[k] := by
  simp [rd_T26, List.getD_eq_getElem?_getD, List.getElem?_eq_getElem h]
set_option maxRecDepth 100000 in
set_option maxHeartbeats 8000000 in
theorem value_main (A : Option Addr) (c : Nat) (fs : List S26) (day k0 k1 share : Int) (w : World) (hC : Kd.C k26 w A fs.length fs) (h : (fs.length : Int) ≤ 20) (R : Int × Int × Int) (HR : Hid (R = valueR fs day k0 k1 share)) :
    Calls Try.prog 23 #[.slice A fs.length c, .int .i64 day, .agg #[.int .i64 k0, .int .i64 k1], .int .i64 share] w fun e w' =>
      e = .returned (.tuple #[.agg #[.int .i64 R.1, .int .i64 R.2.1], .int .i64 R.2.2]) ∧ Below w.heap.size w w' := by
  have hmf : ∀ (fn : Fn) (first cap : Array Value) (w : World), (Instr.makeFunc fn first cap).run Try.prog w = .ok (.func fn first cap) w := fun _ _ _ _ => rfl
  have hmax := Kd.C_max hC
  go_enter_defers Try.func23, Try.ntmps23
  go_wp2
  obtain ⟨W0, hW0⟩ : ∃ W0, ((w.alloc (.cells #[.int .i64 k0, .int .i64 k1] 24)).alloc (.cells #[.int .i64 0, .int .i64 0] 24)).alloc (.cells #[.int .i64 0] 38) = W0 := ⟨_, rfl⟩
  have b6 : Blk W0 w.heap.size 24 #[.int .i64 k0, .int .i64 k1] := by rw [← hW0]; exact ((blk_new w 24 _).alloc _).alloc _
  have b8 : Blk W0 (w.heap.size + 1) 24 #[.int .i64 0, .int .i64 0] := by rw [← hW0]; exact (blk_new' (by simp)).alloc _
  have b9 : Blk W0 (w.heap.size + 1 + 1) 38 #[.int .i64 0] := by rw [← hW0]; exact blk_new' (by simp)
  have B0 : Below w.heap.size w W0 := by rw [← hW0]; repeat (first | exact Below.refl _ _ | refine below_alloc ?_ _)
  rw [hW0]
  clear hW0 hmf
  generalize hge : w.heap.size + 1 + 1 = ge at *
  generalize hgx : w.heap.size + 1 = gx at *
  have hne1 : gx ≠ ge := by omega
  have hne2 : ge ≠ gx := by omega
  have hbx : w.heap.size < gx := by omega
  have hbe : w.heap.size < ge := by omega
  clear hge hgx
  go_loopw [21] (fun vi wr => ∃ k : Nat, k ≤ fs.length ∧ vi = .int .i64 k ∧ Hid (∀ j, j < k → fixE j (fs.getD (j - 1) z26') (fs.getD j z26') = 0) ∧ Blk wr w.heap.size 24 #[.int .i64 k0, .int .i64 k1] ∧ Blk wr gx 24 #[.int .i64 0, .int .i64 0] ∧ Blk wr ge 38 #[.int .i64 0] ∧ Below w.heap.size w wr) (fun vi _ => fs.length - (intOf vi).toNat)
  · exact ⟨0, by omega, rfl, fun j hj => by omega, b6, b8, b9, B0⟩
  · clear b6 b8 b9 B0
    obtain ⟨q, hq, rfl, hno, q6, q8, q9, qB⟩ := hrel
    have hcd := Kd.C_below hC qB
    by_cases hlt : q < fs.length
    · obtain ⟨ad, hA, p0, p1⟩ := at_T26 hcd q (by omega) (by omega)
      obtain ⟨ad', hA', r0, _⟩ := at_T26 hcd ((q - 1 : Nat) : Int) (by omega) (by omega)
      subst hA
      obtain rfl : ad = ad' := by injection hA'
      clear hA'
      simp only [Int.toNat_natCast] at p0 p1 r0
      rw [rd_T26_at fs q hlt] at p0 p1
      rw [rd_T26_at fs (q - 1) (by omega)] at r0
      obtain ⟨d, hd'⟩ : ∃ d, d = fs[q] := ⟨_, rfl⟩
      obtain ⟨pd, hp'⟩ : ∃ pd, pd = fs[q - 1] := ⟨_, rfl⟩
      rw [← hd'] at p0 p1
      rw [← hp'] at r0
      have hg0 : fs.getD q z26' = d := by rw [hd']; simp [List.getD_eq_getElem?_getD, List.getElem?_eq_getElem hlt]
      have hg1 : fs.getD (q - 1) z26' = pd := by rw [hp']; simp [List.getD_eq_getElem?_getD, List.getElem?_eq_getElem (show q - 1 < fs.length by omega)]
      have HG : Hid (fixE q (fs.getD (q - 1) z26') (fs.getD q z26') = fixE q pd d) := by
        show fixE q (fs.getD (q - 1) z26') (fs.getD q z26') = fixE q pd d
        rw [hg0, hg1]
      clear hg0 hg1 hd' hp'
      have hend : ∀ e : Int, fixE q pd d = e → e ≠ 0 → Hid (R = (0, 0, e)) := fun e he hne => by
        have h1 : fixesE fs = e := firstE_yes (fun k => fixE k (fs.getD (k - 1) z26') (fs.getD k z26')) q e (HG.out.trans he) hne hno.out _ hlt
        have h2 : valueE fs day k0 k1 share = e := by rw [valueE, if_neg (by omega), h1, if_pos hne]
        show R = _
        rw [HR.out, valueR, h2, if_pos hne]
      have v8 := q8.alloc (.cells #[.int .i64 d.f0, .int .i64 d.f1] 26)
      have v9 := q9.alloc (.cells #[.int .i64 d.f0, .int .i64 d.f1] 26)
      have vB := qB.alloc (by have := qB.size; omega) (.cells #[.int .i64 d.f0, .int .i64 d.f1] 26)
      cases g1 : inB d.f0 0 4000 with
      | false =>
        have HR2 := hend 1 (by rw [fixE, if_pos g1]) (by omega)
        clear hend
        have x1 := v8.set 0 (.int .i64 0)
        have x2 := x1.set 1 (.int .i64 0)
        have y1 := (v9.far (p := ⟨gx, 0, none⟩) (by simpa using hne2) (.int .i64 0)).far (p := ⟨gx, 1, none⟩) (by simpa using hne2) (.int .i64 0)
        have u0 := v8.cell 0 rfl
        have u1 := v8.cell 1 rfl
        have u2 := v8.frozen 0
        have u3 := x1.cell 1 rfl
        have u4 := x1.frozen 1
        have u5 := y1.cell 0 rfl
        have u6 := y1.frozen 0
        go_wp2_with (go_at_call 81; refine (in_any _ _ _ _).mono ?_; rintro e w' ⟨rfl, rfl⟩)
        refine value_leave gx ge 1 0 0 rfl rfl (x2.far (p := ⟨ge, 0, none⟩) (by simpa using hne1) _) (y1.set 0 _) hne1 (fun h => by omega) (fun _ W' hg => ⟨by rw [HR2.out], ?_⟩)
        have BD := ((vB.setCell (p := ⟨gx, 0, none⟩) (by simp; omega) (.int .i64 0)).setCell (p := ⟨gx, 1, none⟩) (by simp; omega) (.int .i64 0)).setCell (p := ⟨ge, 0, none⟩) (by simp; omega) (.int .i64 1)
        exact BD.grown hg BD.size (fun j e => by cases e; omega)
      | true =>
        cases g2 : inB d.f1 0 100000000 with
        | false =>
          have HR2 := hend 1 (by rw [fixE, g1, if_neg (by simp), if_pos g2]) (by omega)
          clear hend
          have x1 := v8.set 0 (.int .i64 0)
          have x2 := x1.set 1 (.int .i64 0)
          have y1 := (v9.far (p := ⟨gx, 0, none⟩) (by simpa using hne2) (.int .i64 0)).far (p := ⟨gx, 1, none⟩) (by simpa using hne2) (.int .i64 0)
          have u0 := v8.cell 0 rfl
          have u1 := v8.cell 1 rfl
          have u2 := v8.frozen 0
          have u3 := x1.cell 1 rfl
          have u4 := x1.frozen 1
          have u5 := y1.cell 0 rfl
          have u6 := y1.frozen 0
          go_wp2_with (go_at_call 81; refine (in_any _ _ _ _).mono ?_; rintro e w' ⟨rfl, rfl⟩)
          refine value_leave gx ge 1 0 0 rfl rfl (x2.far (p := ⟨ge, 0, none⟩) (by simpa using hne1) _) (y1.set 0 _) hne1 (fun h => by omega) (fun _ W' hg => ⟨by rw [HR2.out], ?_⟩)
          have BD := ((vB.setCell (p := ⟨gx, 0, none⟩) (by simp; omega) (.int .i64 0)).setCell (p := ⟨gx, 1, none⟩) (by simp; omega) (.int .i64 0)).setCell (p := ⟨ge, 0, none⟩) (by simp; omega) (.int .i64 1)
          exact BD.grown hg BD.size (fun j e => by cases e; omega)
        | true =>
          by_cases hq0 : 0 < q
          · have hz : (0 : Int) < q := by omega
            have hw1 : IntKind.i64.wrap ((q : Int) - 1) = (q : Int) - 1 := IntWalk.i64_in _ (by omega)
            have hw2 : ((q : Int) - 1).toNat = q - 1 := by omega
            have hw3 : (1 : Int) ≤ (q : Int) := by omega
            have hw4 : (q : Int) - 1 < (fs.length : Int) := by omega
            have hw5 : ¬ (q : Int) < 1 := by omega
            have r1 := pw_cell_below ((Below.refl _ wr).alloc (Nat.le_refl _) (.cells #[.int .i64 d.f0, .int .i64 d.f1] 26)) r0
            by_cases g3 : d.f0 ≤ pd.f0
            · have HR2 := hend 5 (by rw [fixE, g1, if_neg (by simp), g2, if_neg (by simp), if_pos ⟨hq0, g3⟩]) (by omega)
              clear hend
              go_wp2_with (go_at_call 81; refine (in_any _ _ _ _).mono ?_; rintro e w' ⟨rfl, rfl⟩)
              go_quiet (fail)
              replace v8 := v8.drewN nq
              replace v9 := v9.drewN nq
              replace vB := below_drewN' vB nq
              have x1 := v8.set 0 (.int .i64 0)
              have x2 := x1.set 1 (.int .i64 0)
              have y1 := (v9.far (p := ⟨gx, 0, none⟩) (by simpa using hne2) (.int .i64 0)).far (p := ⟨gx, 1, none⟩) (by simpa using hne2) (.int .i64 0)
              have u0 := v8.cell 0 rfl
              have u1 := v8.cell 1 rfl
              have u2 := v8.frozen 0
              have u3 := x1.cell 1 rfl
              have u4 := x1.frozen 1
              have u5 := y1.cell 0 rfl
              have u6 := y1.frozen 0
              go_wp2
              refine value_leave gx ge 5 0 0 rfl rfl (x2.far (p := ⟨ge, 0, none⟩) (by simpa using hne1) _) (y1.set 0 _) hne1 (fun h => by omega) (fun _ W' hg => ⟨by rw [HR2.out], ?_⟩)
              have BD := ((vB.setCell (p := ⟨gx, 0, none⟩) (by simp; omega) (.int .i64 0)).setCell (p := ⟨gx, 1, none⟩) (by simp; omega) (.int .i64 0)).setCell (p := ⟨ge, 0, none⟩) (by simp; omega) (.int .i64 5)
              exact BD.grown hg BD.size (fun j e => by cases e; omega)
            · have hg3 : ¬ (0 < q ∧ d.f0 ≤ pd.f0) := fun h => g3 h.2
              have hg5 : decide (d.f0 ≤ pd.f0) = false := by simpa using g3
              have HZ : Hid (fixE q (fs.getD (q - 1) z26') (fs.getD q z26') = 0) := HG.out.trans (by rw [fixE, g1, if_neg (by simp), g2, if_neg (by simp), if_neg hg3])
              clear hend
              go_wp2_with (go_at_call 81; refine (in_any _ _ _ _).mono ?_; rintro e w' ⟨rfl, rfl⟩)
              go_quiet (fail)
              replace v8 := v8.drewN nq
              replace v9 := v9.drewN nq
              replace vB := below_drewN' vB nq
              go_wp2
              refine ⟨⟨q + 1, by omega, by push_cast; rfl, fun j hj => ?_, (q6.alloc _).drewN nq, v8, v9, vB⟩, by simp [intOf]; omega⟩
              by_cases hjq : j = q
              · subst hjq; exact HZ.out
              · exact hno.out j (by omega)
          · have hz : ¬ (0 : Int) < q := by omega
            have hg3 : ¬ (0 < q ∧ d.f0 ≤ pd.f0) := fun h => hq0 h.1
            have HZ : Hid (fixE q (fs.getD (q - 1) z26') (fs.getD q z26') = 0) := HG.out.trans (by rw [fixE, g1, if_neg (by simp), g2, if_neg (by simp), if_neg hg3])
            clear hend
            go_wp2_with (go_at_call 81; refine (in_any _ _ _ _).mono ?_; rintro e w' ⟨rfl, rfl⟩)
            go_quiet (fail)
            replace v8 := v8.drewN nq
            replace v9 := v9.drewN nq
            replace vB := below_drewN' vB nq
            go_wp2
            refine ⟨⟨q + 1, by omega, by push_cast; rfl, fun j hj => ?_, (q6.alloc _).drewN nq, v8, v9, vB⟩, by simp [intOf]; omega⟩
            by_cases hjq : j = q
            · subst hjq; exact HZ.out
            · exact hno.out j (by omega)
    · have HE0 : fixesE fs = 0 := firstE_no _ _ (fun j hj => hno.out j (by omega))
      have HV : Hid (valueE fs day k0 k1 share = if inB day 0 4000 = false then 1 else if inB k0 0 1000000 = false then 1 else if inB k1 0 1000000 = false then 1 else if k1 < k0 then 5 else if inB share 0 1000 = false then 1 else (fs.foldl (valF day k0 k1 share) (0, 0, 3)).2.2) := by
        show _ = _
        rw [valueE, if_neg (by omega), HE0, if_neg (by simp)]
      have hend : ∀ e : Int, valueE fs day k0 k1 share = e → e ≠ 0 → Hid (R = (0, 0, e)) := fun e he hne => by
        show R = _
        rw [HR.out, valueR, he, if_pos hne]
      have hql : ¬ (q : Int) < (fs.length : Int) := by omega
      have c60 := q6.cell 0 rfl
      have c61 := q6.cell 1 rfl
      clear HE0
      cases g1 : inB day 0 4000 with
      | false =>
        have HR2 := hend 1 (by rw [HV.out, if_pos g1]) (by omega)
        clear hend
        clear HV
        have v8 := q8
        have v9 := q9
        have vB := qB
        have x1 := v8.set 0 (.int .i64 0)
        have x2 := x1.set 1 (.int .i64 0)
        have y1 := (v9.far (p := ⟨gx, 0, none⟩) (by simpa using hne2) (.int .i64 0)).far (p := ⟨gx, 1, none⟩) (by simpa using hne2) (.int .i64 0)
        have u0 := v8.cell 0 rfl
        have u1 := v8.cell 1 rfl
        have u2 := v8.frozen 0
        have u3 := x1.cell 1 rfl
        have u4 := x1.frozen 1
        have u5 := y1.cell 0 rfl
        have u6 := y1.frozen 0
        go_wp2_with (go_at_call 81; refine (in_any _ _ _ _).mono ?_; rintro e w' ⟨rfl, rfl⟩)
        refine value_leave gx ge 1 0 0 rfl rfl (x2.far (p := ⟨ge, 0, none⟩) (by simpa using hne1) _) (y1.set 0 _) hne1 (fun h => by omega) (fun _ W' hg => ⟨by rw [HR2.out], ?_⟩)
        have BD := ((vB.setCell (p := ⟨gx, 0, none⟩) (by simp; omega) (.int .i64 0)).setCell (p := ⟨gx, 1, none⟩) (by simp; omega) (.int .i64 0)).setCell (p := ⟨ge, 0, none⟩) (by simp; omega) (.int .i64 1)
        exact BD.grown hg BD.size (fun j e => by cases e; omega)
      | true =>
        cases g2 : inB k0 0 1000000 with
        | false =>
          have HR2 := hend 1 (by rw [HV.out, g1, if_neg (by simp), if_pos g2]) (by omega)
          clear hend
          clear HV
          have v8 := q8
          have v9 := q9
          have vB := qB
          have x1 := v8.set 0 (.int .i64 0)
          have x2 := x1.set 1 (.int .i64 0)
          have y1 := (v9.far (p := ⟨gx, 0, none⟩) (by simpa using hne2) (.int .i64 0)).far (p := ⟨gx, 1, none⟩) (by simpa using hne2) (.int .i64 0)
          have u0 := v8.cell 0 rfl
          have u1 := v8.cell 1 rfl
          have u2 := v8.frozen 0
          have u3 := x1.cell 1 rfl
          have u4 := x1.frozen 1
          have u5 := y1.cell 0 rfl
          have u6 := y1.frozen 0
          go_wp2_with (go_at_call 81; refine (in_any _ _ _ _).mono ?_; rintro e w' ⟨rfl, rfl⟩)
          refine value_leave gx ge 1 0 0 rfl rfl (x2.far (p := ⟨ge, 0, none⟩) (by simpa using hne1) _) (y1.set 0 _) hne1 (fun h => by omega) (fun _ W' hg => ⟨by rw [HR2.out], ?_⟩)
          have BD := ((vB.setCell (p := ⟨gx, 0, none⟩) (by simp; omega) (.int .i64 0)).setCell (p := ⟨gx, 1, none⟩) (by simp; omega) (.int .i64 0)).setCell (p := ⟨ge, 0, none⟩) (by simp; omega) (.int .i64 1)
          exact BD.grown hg BD.size (fun j e => by cases e; omega)
        | true =>
          cases g3 : inB k1 0 1000000 with
          | false =>
            have HR2 := hend 1 (by rw [HV.out, g1, if_neg (by simp), g2, if_neg (by simp), if_pos g3]) (by omega)
            clear hend
            clear HV
            have v8 := q8
            have v9 := q9
            have vB := qB
            have x1 := v8.set 0 (.int .i64 0)
            have x2 := x1.set 1 (.int .i64 0)
            have y1 := (v9.far (p := ⟨gx, 0, none⟩) (by simpa using hne2) (.int .i64 0)).far (p := ⟨gx, 1, none⟩) (by simpa using hne2) (.int .i64 0)
            have u0 := v8.cell 0 rfl
            have u1 := v8.cell 1 rfl
            have u2 := v8.frozen 0
            have u3 := x1.cell 1 rfl
            have u4 := x1.frozen 1
            have u5 := y1.cell 0 rfl
            have u6 := y1.frozen 0
            go_wp2_with (go_at_call 81; refine (in_any _ _ _ _).mono ?_; rintro e w' ⟨rfl, rfl⟩)
            refine value_leave gx ge 1 0 0 rfl rfl (x2.far (p := ⟨ge, 0, none⟩) (by simpa using hne1) _) (y1.set 0 _) hne1 (fun h => by omega) (fun _ W' hg => ⟨by rw [HR2.out], ?_⟩)
            have BD := ((vB.setCell (p := ⟨gx, 0, none⟩) (by simp; omega) (.int .i64 0)).setCell (p := ⟨gx, 1, none⟩) (by simp; omega) (.int .i64 0)).setCell (p := ⟨ge, 0, none⟩) (by simp; omega) (.int .i64 1)
            exact BD.grown hg BD.size (fun j e => by cases e; omega)
          | true =>
            by_cases g4 : k1 < k0
            · have HR2 := hend 5 (by rw [HV.out, g1, if_neg (by simp), g2, if_neg (by simp), g3, if_neg (by simp), if_pos g4]) (by omega)
              clear hend
              clear HV
              have v8 := q8
              have v9 := q9
              have vB := qB
              have x1 := v8.set 0 (.int .i64 0)
              have x2 := x1.set 1 (.int .i64 0)
              have y1 := (v9.far (p := ⟨gx, 0, none⟩) (by simpa using hne2) (.int .i64 0)).far (p := ⟨gx, 1, none⟩) (by simpa using hne2) (.int .i64 0)
              have u0 := v8.cell 0 rfl
              have u1 := v8.cell 1 rfl
              have u2 := v8.frozen 0
              have u3 := x1.cell 1 rfl
              have u4 := x1.frozen 1
              have u5 := y1.cell 0 rfl
              have u6 := y1.frozen 0
              go_wp2_with (go_at_call 81; refine (in_any _ _ _ _).mono ?_; rintro e w' ⟨rfl, rfl⟩)
              refine value_leave gx ge 5 0 0 rfl rfl (x2.far (p := ⟨ge, 0, none⟩) (by simpa using hne1) _) (y1.set 0 _) hne1 (fun h => by omega) (fun _ W' hg => ⟨by rw [HR2.out], ?_⟩)
              have BD := ((vB.setCell (p := ⟨gx, 0, none⟩) (by simp; omega) (.int .i64 0)).setCell (p := ⟨gx, 1, none⟩) (by simp; omega) (.int .i64 0)).setCell (p := ⟨ge, 0, none⟩) (by simp; omega) (.int .i64 5)
              exact BD.grown hg BD.size (fun j e => by cases e; omega)
            · cases g5 : inB share 0 1000 with
              | false =>
                have HR2 := hend 1 (by rw [HV.out, g1, if_neg (by simp), g2, if_neg (by simp), g3, if_neg (by simp), if_neg g4, if_pos g5]) (by omega)
                clear hend
                clear HV
                have v8 := q8
                have v9 := q9
                have vB := qB
                have x1 := v8.set 0 (.int .i64 0)
                have x2 := x1.set 1 (.int .i64 0)
                have y1 := (v9.far (p := ⟨gx, 0, none⟩) (by simpa using hne2) (.int .i64 0)).far (p := ⟨gx, 1, none⟩) (by simpa using hne2) (.int .i64 0)
                have u0 := v8.cell 0 rfl
                have u1 := v8.cell 1 rfl
                have u2 := v8.frozen 0
                have u3 := x1.cell 1 rfl
                have u4 := x1.frozen 1
                have u5 := y1.cell 0 rfl
                have u6 := y1.frozen 0
                go_wp2_with (go_at_call 81; refine (in_any _ _ _ _).mono ?_; rintro e w' ⟨rfl, rfl⟩)
                refine value_leave gx ge 1 0 0 rfl rfl (x2.far (p := ⟨ge, 0, none⟩) (by simpa using hne1) _) (y1.set 0 _) hne1 (fun h => by omega) (fun _ W' hg => ⟨by rw [HR2.out], ?_⟩)
                have BD := ((vB.setCell (p := ⟨gx, 0, none⟩) (by simp; omega) (.int .i64 0)).setCell (p := ⟨gx, 1, none⟩) (by simp; omega) (.int .i64 0)).setCell (p := ⟨ge, 0, none⟩) (by simp; omega) (.int .i64 1)
                exact BD.grown hg BD.size (fun j e => by cases e; omega)
              | true =>
                have HV2 : Hid (valueE fs day k0 k1 share = (fs.foldl (valF day k0 k1 share) (0, 0, 3)).2.2) := by
                  show _ = _
                  rw [HV.out, g1, if_neg (by simp), g2, if_neg (by simp), g3, if_neg (by simp), if_neg g4, g5, if_neg (by simp)]
                clear HV hend
                have f9 := q9.frozen 0
                have c9 := q9.cell 0 rfl
                go_wp2_with (go_at_call 81; refine (in_any _ _ _ _).mono ?_; rintro e w' ⟨rfl, hw'⟩; rw [hw']; clear hw')
                have HOK : Hid (∀ f ∈ fs, 0 ≤ f.f1 ∧ f.f1 ≤ 100000000) := fun f hf => by
                  obtain ⟨k, hk, rfl⟩ := List.getElem_of_mem hf
                  have h1 := hno.out k (by omega)
                  rw [List.getD_eq_getElem?_getD (i := k), List.getElem?_eq_getElem hk] at h1
                  simp only [Option.getD_some] at h1
                  unfold fixE at h1
                  split at h1
                  · cases h1
                  split at h1
                  · cases h1
                  rename_i h2
                  exact inB_true h2
                clear hno
                have z6 := q6.far (p := ⟨ge, 0, none⟩) (by simp; omega) (.int .i64 3)
                have z8 := q8.far (p := ⟨ge, 0, none⟩) (by simpa using hne1) (.int .i64 3)
                have z9 := q9.set 0 (.int .i64 3)
                have zB := qB.setCell (p := ⟨ge, 0, none⟩) (by simp; omega) (.int .i64 3)
                clear q6 q8 q9 qB hcd c60 c61 f9 c9
                generalize wr.setCell ⟨ge, 0, none⟩ (.int .i64 3) = W1 at *
                go_loopw [79] (fun vi wr => ∃ (k : Nat) (a b t : Int), k ≤ fs.length ∧ vi = .int .i64 k ∧ Hid ((a, b, t) = (fs.take k).foldl (valF day k0 k1 share) (0, 0, 3)) ∧ Blk wr w.heap.size 24 #[.int .i64 k0, .int .i64 k1] ∧ Blk wr gx 24 #[.int .i64 a, .int .i64 b] ∧ Blk wr ge 38 #[.int .i64 t] ∧ Below w.heap.size w wr) (fun vi _ => fs.length - (intOf vi).toNat)
                · exact ⟨0, 0, 0, 3, by omega, rfl, rfl, z6, z8, z9, zB⟩
                · clear z6 z8 z9 zB
                  obtain ⟨k, a, b, t, hk, rfl, HS, o6, o8, o9, oB⟩ := hrel
                  have hcd := Kd.C_below hC oB
                  by_cases hlt2 : k < fs.length
                  · obtain ⟨ad, hA, p0, p1⟩ := at_T26 hcd k (by omega) (by omega)
                    subst hA
                    simp only [Int.toNat_natCast] at p0 p1
                    rw [rd_T26_at fs k hlt2] at p0 p1
                    have hmem := HOK.out fs[k] (List.getElem_mem _)
                    have hst : (fs.take (k + 1)).foldl (valF day k0 k1 share) (0, 0, 3) = valF day k0 k1 share (a, b, t) fs[k] := by
                      rw [List.take_succ_eq_append_getElem hlt2, List.foldl_append, ← HS.out]; rfl
                    obtain ⟨d, hd'⟩ : ∃ d, d = fs[k] := ⟨_, rfl⟩
                    rw [← hd'] at p0 p1 hmem hst
                    clear hd'
                    have HST : Hid ((fs.take (k + 1)).foldl (valF day k0 k1 share) (0, 0, 3) = valF day k0 k1 share (a, b, t) d) := hst
                    clear hst
                    obtain ⟨m0, m1⟩ := hmem
                    by_cases hday : d.f0 ≤ day
                    · have hk0 := inB_true (n := k0) (a := 0) (b := 1000000) (by rw [g2]; simp)
                      have hk1 := inB_true (n := k1) (a := 0) (b := 1000000) (by rw [g3]; simp)
                      have hsh := inB_true (n := share) (a := 0) (b := 1000) (by rw [g5]; simp)
                      have p1 : 0 ≤ k0 * d.f1 := Int.mul_nonneg hk0.1 m0
                      have p2 : k0 * d.f1 ≤ 1000000 * 100000000 := Int.mul_le_mul hk0.2 m1 m0 (by omega)
                      have p3 : 0 ≤ k0 * d.f1 * share := Int.mul_nonneg p1 hsh.1
                      have p4 : k0 * d.f1 * share ≤ 1000000 * 100000000 * 1000 := Int.mul_le_mul p2 hsh.2 hsh.1 (by omega)
                      have r1 : 0 ≤ k1 * d.f1 := Int.mul_nonneg hk1.1 m0
                      have r2 : k1 * d.f1 ≤ 1000000 * 100000000 := Int.mul_le_mul hk1.2 m1 m0 (by omega)
                      have r3 : 0 ≤ k1 * d.f1 * share := Int.mul_nonneg r1 hsh.1
                      have r4 : k1 * d.f1 * share ≤ 1000000 * 100000000 * 1000 := Int.mul_le_mul r2 hsh.2 hsh.1 (by omega)
                      have v6 := o6.alloc (.cells #[.int .i64 d.f0, .int .i64 d.f1] 26)
                      have v8 := o8.alloc (.cells #[.int .i64 d.f0, .int .i64 d.f1] 26)
                      have v9 := o9.alloc (.cells #[.int .i64 d.f0, .int .i64 d.f1] 26)
                      have vB := oB.alloc (by have := oB.size; omega) (.cells #[.int .i64 d.f0, .int .i64 d.f1] 26)
                      have c60 := v6.cell 0 rfl
                      have c61 := v6.cell 1 rfl
                      have u0 := v8.cell 0 rfl
                      have u1 := v8.cell 1 rfl
                      have u2 := v8.frozen 0
                      have u4 := v8.frozen 1
                      have u5 := v9.cell 0 rfl
                      have u6 := v9.frozen 0
                      go_wp2
                      have n6 := (((v6.far (p := ⟨gx, 0, none⟩) (by simp; omega) (.int .i64 (k0 * d.f1 * share / 1000000))).far (p := ⟨gx, 1, none⟩) (by simp; omega) (.int .i64 (k1 * d.f1 * share / 1000000))).far (p := ⟨ge, 0, none⟩) (by simp; omega) (.int .i64 0))
                      have n8 := (((v8.set 0 (.int .i64 (k0 * d.f1 * share / 1000000))).set 1 (.int .i64 (k1 * d.f1 * share / 1000000))).far (p := ⟨ge, 0, none⟩) (by simpa using hne1) (.int .i64 0))
                      have n9 := (((v9.far (p := ⟨gx, 0, none⟩) (by simpa using hne2) (.int .i64 (k0 * d.f1 * share / 1000000))).far (p := ⟨gx, 1, none⟩) (by simpa using hne2) (.int .i64 (k1 * d.f1 * share / 1000000))).set 0 (.int .i64 0))
                      have nB := ((vB.setCell (p := ⟨gx, 0, none⟩) (by simp; omega) (.int .i64 (k0 * d.f1 * share / 1000000))).setCell (p := ⟨gx, 1, none⟩) (by simp; omega) (.int .i64 (k1 * d.f1 * share / 1000000))).setCell (p := ⟨ge, 0, none⟩) (by simp; omega) (.int .i64 0)
                      refine ⟨⟨k + 1, _, _, 0, by omega, by push_cast; rfl, ?_, n6, n8, n9, nB⟩, by simp [intOf]; omega⟩
                      show _ = _
                      rw [HST.out, valF, if_pos hday, worth, worth, Int.tdiv_eq_ediv_of_nonneg p3, Int.tdiv_eq_ediv_of_nonneg r3]
                    · go_wp2
                      refine ⟨⟨k + 1, a, b, t, by omega, by push_cast; rfl, ?_, o6.alloc _, o8.alloc _, o9.alloc _, oB.alloc (by have := oB.size; omega) _⟩, by simp [intOf]; omega⟩
                      show _ = _
                      rw [HST.out, valF, if_neg hday]
                  · have hkl : ¬ (k : Int) < (fs.length : Int) := by omega
                    go_wp2
                    have v8 := o8
                    have v9 := o9
                    have x1 := v8.set 0 (.int .i64 a)
                    have x2 := x1.set 1 (.int .i64 b)
                    have y1 := v9.set 0 (.int .i64 t)
                    have u0 := v8.cell 0 rfl
                    have u1 := v8.cell 1 rfl
                    have u2 := v8.frozen 0
                    have u4 := v8.frozen 1
                    have u5 := v9.cell 0 rfl
                    have u6 := v9.frozen 0
                    go_region
                    all_goals go_wp2
                    all_goals clear u0 u1 u2 u4 u5 u6
                    all_goals have hfin : (a, b, t) = fs.foldl (valF day k0 k1 share) (0, 0, 3) := (by have := HS.out; rw [List.take_of_length_le (by omega)] at this; exact this)
                    all_goals have hRt : R = if t ≠ 0 then (0, 0, t) else (a, b, t) := (by rw [HR.out, valueR, HV2.out, ← hfin])
                    · refine value_leave gx ge t a b rfl rfl (x2.far (p := ⟨ge, 0, none⟩) (by simpa using hne1) (.int .i64 t)) (((v9.far (p := ⟨gx, 0, none⟩) (by simpa using hne2) (.int .i64 a)).far (p := ⟨gx, 1, none⟩) (by simpa using hne2) (.int .i64 b)).set 0 (.int .i64 t)) hne1 (fun h0 => ⟨by rw [hRt, h0]; rfl, ?_⟩) (fun h0 W' hg => ⟨by rw [hRt, if_pos h0], ?_⟩)
                      all_goals have BD := ((oB.setCell (p := ⟨gx, 0, none⟩) (by simp; omega) (.int .i64 a)).setCell (p := ⟨gx, 1, none⟩) (by simp; omega) (.int .i64 b)).setCell (p := ⟨ge, 0, none⟩) (by simp; omega) (.int .i64 t)
                      · exact ⟨BD.os, BD.tape, BD.output, BD.size, BD.block⟩
                      · exact BD.grown (row := some gx) ⟨hg.os, hg.tape, hg.output, hg.size, hg.block⟩ BD.size (fun j e => by cases e; omega)
end Go.Proofs.Ytkdlbocjgbmbdaa.Print

namespace Go.Proofs.Ytkdlbocjgbmbdaa.Print
open Go.RowKit Go.Shelf Go.Proofs.YtkdlbocjgbmbdaaW.PrintWords
set_option linter.unusedVariables false
def pay_Check.f (a0_0 : Int) (a0_1 : Int) (a0_2 : Int) (l0_3 : List (S84)) (l0_4 : List (S61)) : Option (Int) := some (tillE a0_0 a0_1 a0_2 l0_3 l0_4)
theorem pay_Check.calls (a0_0 : Int) (a0_1 : Int) (a0_2 : Int) (A0_3 : Option Addr) (c0_3 : Nat) (l0_3 : List (S84)) (A0_4 : Option Addr) (c0_4 : Nat) (l0_4 : List (S61)) (r : Int) (w : World) (hr0_3 : Kd.C k84 w A0_3 l0_3.length l0_3) (hc0_3 : l0_3.length ≤ c0_3) (hr0_4 : Kd.C k61 w A0_4 l0_4.length l0_4) (hc0_4 : l0_4.length ≤ c0_4) (h : pay_Check.f a0_0 a0_1 a0_2 l0_3 l0_4 = some r) :
    Calls Try.prog 73 #[.agg #[.int .i64 a0_0, .int .i64 a0_1, .int .i64 a0_2, .slice A0_3 l0_3.length c0_3, .slice A0_4 l0_4.length c0_4]] w fun e w' => e = .returned (.int .i64 r) ∧ Below w.heap.size w w' := by
  have h := Option.some.inj h
  refine (check73_any a0_0 a0_1 a0_2 A0_3 c0_3 l0_3 A0_4 c0_4 l0_4 w hr0_3 hc0_3 hr0_4).mono ?_
  rw [h]
  exact fun e w' h => h
def pay_Same.f (a0_0 : Int) (a0_1 : Int) (a0_2 : Int) (l0_3 : List (S84)) (l0_4 : List (S61)) (a1 : Int) (a2 : Int) : Option (Int × Int) := some (sameR a0_0 a0_1 a0_2 l0_3 l0_4 a1 a2)
theorem pay_Same.calls (a0_0 : Int) (a0_1 : Int) (a0_2 : Int) (A0_3 : Option Addr) (c0_3 : Nat) (l0_3 : List (S84)) (A0_4 : Option Addr) (c0_4 : Nat) (l0_4 : List (S61)) (a1 : Int) (a2 : Int) (r1 : Int) (r2 : Int) (w : World) (hr0_3 : Kd.C k84 w A0_3 l0_3.length l0_3) (hc0_3 : l0_3.length ≤ c0_3) (hr0_4 : Kd.C k61 w A0_4 l0_4.length l0_4) (hc0_4 : l0_4.length ≤ c0_4) (h : pay_Same.f a0_0 a0_1 a0_2 l0_3 l0_4 a1 a2 = some (r1, r2)) :
    Calls Try.prog 69 #[.agg #[.int .i64 a0_0, .int .i64 a0_1, .int .i64 a0_2, .slice A0_3 l0_3.length c0_3, .slice A0_4 l0_4.length c0_4], .int .i64 a1, .int .i64 a2] w fun e w' => e = .returned (.tuple #[.int .i64 r1, .int .i64 r2]) ∧ Below w.heap.size w w' := by
  have h := Option.some.inj h
  refine (same_any a0_0 a0_1 a0_2 A0_3 c0_3 l0_3 A0_4 c0_4 l0_4 a1 a2 w hr0_3 hc0_3 hr0_4).mono ?_
  rw [h]
  exact fun e w' h => h
def pay_Lawful.f (a0_0 : Int) (a0_1 : Int) (a0_2 : Int) (l0_3 : List (S84)) (l0_4 : List (S61)) : Option (Int × Int) := some (lawfulR a0_0 a0_1 a0_2 l0_3 l0_4)
theorem pay_Lawful.calls (a0_0 : Int) (a0_1 : Int) (a0_2 : Int) (A0_3 : Option Addr) (c0_3 : Nat) (l0_3 : List (S84)) (A0_4 : Option Addr) (c0_4 : Nat) (l0_4 : List (S61)) (r1 : Int) (r2 : Int) (w : World) (hr0_3 : Kd.C k84 w A0_3 l0_3.length l0_3) (hc0_3 : l0_3.length ≤ c0_3) (hr0_4 : Kd.C k61 w A0_4 l0_4.length l0_4) (hc0_4 : l0_4.length ≤ c0_4) (h : pay_Lawful.f a0_0 a0_1 a0_2 l0_3 l0_4 = some (r1, r2)) :
    Calls Try.prog 38 #[.agg #[.int .i64 a0_0, .int .i64 a0_1, .int .i64 a0_2, .slice A0_3 l0_3.length c0_3, .slice A0_4 l0_4.length c0_4]] w fun e w' => e = .returned (.tuple #[.int .i64 r1, .int .i64 r2]) ∧ Below w.heap.size w w' := by
  have h := Option.some.inj h
  refine (lawful_any a0_0 a0_1 a0_2 A0_3 c0_3 l0_3 A0_4 c0_4 l0_4 w hr0_3 hc0_3 hr0_4).mono ?_
  rw [h]
  exact fun e w' h => h
def pay_Breach.f (a0_0 : Int) (a0_1 : Int) (a0_2 : Int) (l0_3 : List (S84)) (l0_4 : List (S61)) : Option (Int × Int × Int) := some (breachR a0_0 a0_1 a0_2 l0_3 l0_4)
theorem pay_Breach.calls (a0_0 : Int) (a0_1 : Int) (a0_2 : Int) (A0_3 : Option Addr) (c0_3 : Nat) (l0_3 : List (S84)) (A0_4 : Option Addr) (c0_4 : Nat) (l0_4 : List (S61)) (r1 : Int) (r2 : Int) (r3 : Int) (w : World) (hr0_3 : Kd.C k84 w A0_3 l0_3.length l0_3) (hc0_3 : l0_3.length ≤ c0_3) (hr0_4 : Kd.C k61 w A0_4 l0_4.length l0_4) (hc0_4 : l0_4.length ≤ c0_4) (h : pay_Breach.f a0_0 a0_1 a0_2 l0_3 l0_4 = some (r1, r2, r3)) :
    Calls Try.prog 51 #[.agg #[.int .i64 a0_0, .int .i64 a0_1, .int .i64 a0_2, .slice A0_3 l0_3.length c0_3, .slice A0_4 l0_4.length c0_4]] w fun e w' => e = .returned (.tuple #[.int .i64 r1, .int .i64 r2, .int .i64 r3]) ∧ Below w.heap.size w w' := by
  have h := Option.some.inj h
  refine (breach_any a0_0 a0_1 a0_2 A0_3 c0_3 l0_3 A0_4 c0_4 l0_4 w hr0_3 hc0_3 hr0_4 hc0_4).mono ?_
  rw [h]
  exact fun e w' h => h
def pay_Room.f (a0_0 : Int) (a0_1 : Int) (a0_2 : Int) (l0_3 : List (S84)) (l0_4 : List (S61)) (a1 : Int) (a2 : Int) : Option (Int × Int) := some (roomR a0_0 a0_1 a0_2 l0_3 l0_4 a1 a2)
theorem pay_Room.calls (a0_0 : Int) (a0_1 : Int) (a0_2 : Int) (A0_3 : Option Addr) (c0_3 : Nat) (l0_3 : List (S84)) (A0_4 : Option Addr) (c0_4 : Nat) (l0_4 : List (S61)) (a1 : Int) (a2 : Int) (r1 : Int) (r2 : Int) (w : World) (hr0_3 : Kd.C k84 w A0_3 l0_3.length l0_3) (hc0_3 : l0_3.length ≤ c0_3) (hr0_4 : Kd.C k61 w A0_4 l0_4.length l0_4) (hc0_4 : l0_4.length ≤ c0_4) (h : pay_Room.f a0_0 a0_1 a0_2 l0_3 l0_4 a1 a2 = some (r1, r2)) :
    Calls Try.prog 33 #[.agg #[.int .i64 a0_0, .int .i64 a0_1, .int .i64 a0_2, .slice A0_3 l0_3.length c0_3, .slice A0_4 l0_4.length c0_4], .int .i64 a1, .int .i64 a2] w fun e w' => e = .returned (.tuple #[.int .i64 r1, .int .i64 r2]) ∧ Below w.heap.size w w' := by
  have h := Option.some.inj h
  refine (room_any a0_0 a0_1 a0_2 A0_3 c0_3 l0_3 A0_4 c0_4 l0_4 a1 a2 w hr0_3 hc0_3 hr0_4).mono ?_
  rw [h]
  exact fun e w' h => h
def pay_Soonest.f (a0_0 : Int) (a0_1 : Int) (a0_2 : Int) (l0_3 : List (S84)) (l0_4 : List (S61)) (a1 : Int) (a2 : Int) (a3 : Int) : Option (Int × Int) := some (soonR a0_0 a0_1 a0_2 l0_3 l0_4 a1 a2 a3)
theorem pay_Soonest.calls (a0_0 : Int) (a0_1 : Int) (a0_2 : Int) (A0_3 : Option Addr) (c0_3 : Nat) (l0_3 : List (S84)) (A0_4 : Option Addr) (c0_4 : Nat) (l0_4 : List (S61)) (a1 : Int) (a2 : Int) (a3 : Int) (r1 : Int) (r2 : Int) (w : World) (hr0_3 : Kd.C k84 w A0_3 l0_3.length l0_3) (hc0_3 : l0_3.length ≤ c0_3) (hr0_4 : Kd.C k61 w A0_4 l0_4.length l0_4) (hc0_4 : l0_4.length ≤ c0_4) (h : pay_Soonest.f a0_0 a0_1 a0_2 l0_3 l0_4 a1 a2 a3 = some (r1, r2)) :
    Calls Try.prog 36 #[.agg #[.int .i64 a0_0, .int .i64 a0_1, .int .i64 a0_2, .slice A0_3 l0_3.length c0_3, .slice A0_4 l0_4.length c0_4], .int .i64 a1, .int .i64 a2, .int .i64 a3] w fun e w' => e = .returned (.tuple #[.int .i64 r1, .int .i64 r2]) ∧ Below w.heap.size w w' := by
  have h := Option.some.inj h
  refine (soon_any a0_0 a0_1 a0_2 A0_3 c0_3 l0_3 A0_4 c0_4 l0_4 a1 a2 a3 w hr0_3 hc0_3 hr0_4).mono ?_
  rw [h]
  exact fun e w' h => h
def pay_Match.f (k : Nat) (l0 : List (S77)) (l1 : List ByteArray) : Option (Int × List Int × Int) := some (matchR l0 l1)
theorem pay_Match.mono : ∀ a0 a1 k, LeO (pay_Match.f k a0 a1) (pay_Match.f (k + 1) a0 a1) := fun _ _ _ => LeO.refl _
theorem pay_Match.calls (k : Nat) (A0 : Option Addr) (c0 : Nat) (l0 : List (S77)) (A1 : Option Addr) (c1 : Nat) (l1 : List ByteArray) (r1 : Int) (r2 : List Int) (r3 : Int) (w : World) (hr0 : Kd.C k77 w A0 l0.length l0) (hc0 : l0.length ≤ c0) (hr1 : Kd.C Kd.string w A1 l1.length l1) (hc1 : l1.length ≤ c1) (h : pay_Match.f k l0 l1 = some (r1, r2, r3)) :
    Calls Try.prog 42 #[.slice A0 l0.length c0, .slice A1 l1.length c1] w fun e w' => ∃ v1_ : Value, e = .returned (.tuple #[.int .i64 r1, v1_, .int .i64 r3]) ∧ Kd.R (Kd.int .i64) 3 w' w.heap.size (fun _ => True) v1_ r2 ∧ Below w.heap.size w w' := by
  have h := Option.some.inj h
  refine (match_any A0 c0 l0 A1 c1 l1 w hr0 hc0 hr1).mono ?_
  rw [h]
  exact fun e w' h => h
def pay_Value.f (k : Nat) (l0 : List (S26)) (a1 : Int) (a2_0 : Int) (a2_1 : Int) (a3 : Int) : Option (Int × Int × Int) := some (valueR l0 a1 a2_0 a2_1 a3)
theorem pay_Value.mono : ∀ a0 a1 a2 a3 a4 k, LeO (pay_Value.f k a0 a1 a2 a3 a4) (pay_Value.f (k + 1) a0 a1 a2 a3 a4) := fun _ _ _ _ _ _ => LeO.refl _
theorem pay_Value.calls (k : Nat) (A0 : Option Addr) (c0 : Nat) (l0 : List (S26)) (a1 : Int) (a2_0 : Int) (a2_1 : Int) (a3 : Int) (r1 : Int) (r2 : Int) (r3 : Int) (w : World) (hr0 : Kd.C k26 w A0 l0.length l0) (hc0 : l0.length ≤ c0) (h : pay_Value.f k l0 a1 a2_0 a2_1 a3 = some (r1, r2, r3)) :
    Calls Try.prog 23 #[.slice A0 l0.length c0, .int .i64 a1, .agg #[.int .i64 a2_0, .int .i64 a2_1], .int .i64 a3] w fun e w' => e = .returned (.tuple #[.agg #[.int .i64 r1, .int .i64 r2], .int .i64 r3]) ∧ Below w.heap.size w w' := by
  have h := Option.some.inj h
  by_cases hl : (20 : Int) < l0.length
  · refine (value_long A0 c0 l0 a1 a2_0 a2_1 a3 w hl).mono ?_
    have h2 : valueR l0 a1 a2_0 a2_1 a3 = (0, 0, 6) := by
      have h3 : valueE l0 a1 a2_0 a2_1 a3 = 6 := by rw [valueE, if_pos hl]
      rw [valueR, h3, if_pos (by omega)]
    rw [h2] at h
    cases h
    exact fun e w' h => h
  · refine (value_main A0 c0 l0 a1 a2_0 a2_1 a3 w hr0 (by omega) _ (show Hid (_ = _) from rfl)).mono ?_
    rw [h]
    exact fun e w' h => h
def pay_Exposed.f (l0_0 : List (S24)) (a0_1 : Int) (a0_2 : Int) (a0_3 : Int) (l1 : List Int) : Option ((List (S24)) × Int) := some (exposedR l0_0 a0_1 a0_2 a0_3 l1)
theorem pay_Exposed.calls (A0_0 : Option Addr) (c0_0 : Nat) (l0_0 : List (S24)) (a0_1 : Int) (a0_2 : Int) (a0_3 : Int) (A1 : Option Addr) (c1 : Nat) (l1 : List Int) (r1 : List (S24)) (r2 : Int) (w : World) (hr0_0 : Kd.C k24 w A0_0 l0_0.length l0_0) (hc0_0 : l0_0.length ≤ c0_0) (hr1 : Kd.C (Kd.int .i64) w A1 l1.length l1) (hc1 : l1.length ≤ c1) (h : pay_Exposed.f l0_0 a0_1 a0_2 a0_3 l1 = some (r1, r2)) :
    Calls Try.prog 57 #[.agg #[.slice A0_0 l0_0.length c0_0, .int .i64 a0_1, .int .i64 a0_2, .int .i64 a0_3], .slice A1 l1.length c1] w fun e w' => ∃ v0_ : Value, e = .returned (.tuple #[v0_, .int .i64 r2]) ∧ Kd.R k24 24 w' w.heap.size (fun _ => True) v0_ r1 ∧ Below w.heap.size w w' := by
  have h := Option.some.inj h
  refine (Exposed_any A0_0 c0_0 l0_0 a0_1 a0_2 a0_3 A1 c1 l1 w hr0_0 hr1).mono ?_
  rw [h]
  exact fun e w' h => h
def pay_Hedged.f (l0_0 : List (S24)) (a0_1 : Int) (a0_2 : Int) (a0_3 : Int) : Option (List Int × Int × Int) := some (hedgedR l0_0 a0_1 a0_2 a0_3)
theorem pay_Hedged.calls (A0_0 : Option Addr) (c0_0 : Nat) (l0_0 : List (S24)) (a0_1 : Int) (a0_2 : Int) (a0_3 : Int) (r1 : List Int) (r2 : Int) (r3 : Int) (w : World) (hr0_0 : Kd.C k24 w A0_0 l0_0.length l0_0) (hc0_0 : l0_0.length ≤ c0_0) (h : pay_Hedged.f l0_0 a0_1 a0_2 a0_3 = some (r1, r2, r3)) :
    Calls Try.prog 59 #[.agg #[.slice A0_0 l0_0.length c0_0, .int .i64 a0_1, .int .i64 a0_2, .int .i64 a0_3]] w fun e w' => ∃ v0_ : Value, e = .returned (.tuple #[v0_, .int .i64 r2, .int .i64 r3]) ∧ Kd.R (Kd.int .i64) 3 w' w.heap.size (fun _ => True) v0_ r1 ∧ Below w.heap.size w w' := by
  have h := Option.some.inj h
  refine (Hedged_any A0_0 c0_0 l0_0 a0_1 a0_2 a0_3 w hr0_0).mono ?_
  rw [h]
  exact fun e w' h => h
end Go.Proofs.Ytkdlbocjgbmbdaa.Print

namespace Go.Proofs.Ytkdlbocjgbmbdaa.Print
open Go.RowKit Go.Proofs.YtkdlbocjgbmbdaaW.PrintWords Go.Proofs.YtkdlbocjgbmbdaaW.PrintLast Go.Proofs.YtkdlbocjgbmbdaaW.PrintMore
attribute [local go_sem] max2_int min2_int max_two min_two max_three min_three max_four min_four   -- for this text's walks alone
set_option linter.unusedVariables false
set_option linter.unusedSimpArgs false
theorem eqA24 (d : Nat) (w : World) (x0 y0 : Int) (x1 y1 : Int) :
    (Op.equalIn (d + 2) 24 (.agg #[.int .i64 x0, .int .i64 x1]) (.agg #[.int .i64 y0, .int .i64 y1])).run Try.prog w = .ok (x0 == y0 && (x1 == y1)) w := by
  refine eqA_of Try.underlying24 (by kernel_rfl) ?_
  refine eqf_cons (by rfl) (by go_simp; rfl) (by go_simp; rfl) (by go_simp) ?_
  exact eqf_last (by rfl) (by go_simp; rfl) (by go_simp; rfl) (by go_simp)
end Go.Proofs.Ytkdlbocjgbmbdaa.Print

namespace Go.Proofs.Ytkdlbocjgbmbdaa.Print
open Go.RowKit Go.Proofs.YtkdlbocjgbmbdaaW.PrintWords Go.Proofs.YtkdlbocjgbmbdaaW.PrintLast Go.Proofs.YtkdlbocjgbmbdaaW.PrintMore
attribute [local go_sem] max2_int min2_int max_two min_two max_three min_three max_four min_four   -- for this text's walks alone
set_option linter.unusedVariables false
set_option linter.unusedSimpArgs false
def swarflaw08_to.f (a0 : Int) (a1 : Int) : Option (Int × Int) := some (a0, a1)
set_option maxHeartbeats 8000000 in
set_option maxRecDepth 100000 in
theorem swarflaw08_to.calls (a0 : Int) (a1 : Int) (r1 : Int) (r2 : Int) (w : World) (h : swarflaw08_to.f a0 a1 = some (r1, r2)) :
    Calls Try.prog 27 #[.int .i64 a0, .int .i64 a1] w fun e w' => e = .returned (.agg #[.int .i64 r1, .int .i64 r2]) ∧ Below w.heap.size w w' := by
  have hu24 := Try.underlying24
  have HB := Aside0.mk (Below.refl w.heap.size w)
  have H : (some (a0, a1)) = some (r1, r2) := h
  clear h
  simp only [Option.some.injEq, Prod.mk.injEq] at H
  obtain ⟨rfl, rfl⟩ := H
  go_enter Try.func27, Try.ntmps27
  go_wp2_with (first | ((with_reducible refine gate_dst (N := 4) rfl ?_); refine box_event ?hg (N := 4) ?hd (cs := #[.int .i64 0, .int .i64 0]) (t := 24) ?hr ?_; (case hd => rfl); (case hg => rfl); (case hr => first | (go_simp; done) | (go_simp; rfl)); intro gb117 hg w3 hbox hb; have n0_ := Aside0.mk (below_step (by repeat (first | (with_reducible first | exact HB.out | apply below_alloc | apply pw_below_drewN | apply below_drew1) | exact HB.out)) hb); have n1_ := Aside0.mk (hbox); have n2_ := Aside0.mk ((by rw [hg]; exact (below_size (by repeat (first | (with_reducible first | exact HB.out | apply below_alloc | apply pw_below_drewN | apply below_drew1) | exact HB.out))) : w.heap.size ≤ gb117)); have n3_ := Aside0.mk ((by rw [hg]; exact (below_size (by repeat (first | (with_reducible first | exact HB.out | apply below_alloc | apply pw_below_drewN | apply below_drew1) | exact HB.out))) : w.heap.size ≤ gb117)); clear HB; have HB := n0_; have BK117 := n1_; have GW117 := n2_; have GE117 := n3_; clear n0_ n1_ n2_ n3_; clear hb hbox hg; have hcz4_0 : w3.cell? ⟨gb117, 0, none⟩ = some (.int .i64 0) := (blk_cell BK117.out 0).trans rfl; have hcz4_1 : w3.cell? ⟨gb117, 1, none⟩ = some (.int .i64 0) := (blk_cell BK117.out 1).trans rfl; have hfz4_0 := blk_frozen BK117.out 0; have hfz4_1 := blk_frozen BK117.out 1))
  refine bodyPost_ret (results_cell_row rfl _ _ gb117 24 #[.int .i64 a0, .int .i64 a1] (0, 0) _ rfl (by (with_reducible repeat (first | refine blk_drewN ?_ _ | refine blk_drew ?_ | refine blk_alloc ?_ _)); refine blk_put (cs := #[.int .i64 a0, .int .i64 0]) ?_ 1 _ rfl; (with_reducible repeat (first | refine blk_drewN ?_ _ | refine blk_drew ?_ | refine blk_alloc ?_ _)); refine blk_put (cs := #[.int .i64 0, .int .i64 0]) ?_ 0 _ rfl; (with_reducible repeat (first | refine blk_drewN ?_ _ | refine blk_drew ?_ | refine blk_alloc ?_ _)); exact BK117.out) Try.underlying24 rfl (by kernel_rfl)) rfl ?_
  exact ⟨by first | rfl | (simp [errW_none, errW_some] <;> rfl) | (simp [*, errW_none, errW_some] <;> rfl), by repeat (first | (with_reducible first | exact HB.out | apply below_alloc | apply pw_below_drewN | apply below_drew1 | refine below_set ?_ GE117.out) | exact HB.out)⟩
def pay_in.f (a0 : Int) (a1 : Int) (a2 : Int) : Option (Bool) := if a1 ≤ a0 then (some (decide (a0 ≤ a2))) else (some false)
set_option maxHeartbeats 8000000 in
set_option maxRecDepth 100000 in
theorem pay_in.calls (a0 : Int) (a1 : Int) (a2 : Int) (r : Bool) (w : World) (h : pay_in.f a0 a1 a2 = some r) :
    Calls Try.prog 81 #[.int .i64 a0, .int .i64 a1, .int .i64 a2] w fun e w' => e = .returned (.bool r) ∧ Drawn0 w w' := by
  have H : (if a1 ≤ a0 then (some (decide (a0 ≤ a2))) else (some false)) = some r := h
  clear h
  by_cases c4 : a1 ≤ a0
  · rw [if_pos c4] at H
    have c4b0 : decide (a1 ≤ a0) = true := decide_eq_true c4
    clear c4
    obtain rfl := Option.some.inj H
    go_enter Try.func81, Try.ntmps81
    go_wp2
    go_ret
    exact ⟨by first | rfl | (simp; done) | (simp [*]; done), by repeat (first | exact Drawn0.refl _ | apply Drawn0.step)⟩
  · rw [if_neg c4] at H
    have c4b0 : decide (a1 ≤ a0) = false := decide_eq_false c4
    clear c4
    obtain rfl := Option.some.inj H
    go_enter Try.func81, Try.ntmps81
    go_wp2
    go_ret
    exact ⟨by first | rfl | (simp; done) | (simp [*]; done), by repeat (first | exact Drawn0.refl _ | apply Drawn0.step)⟩
end Go.Proofs.Ytkdlbocjgbmbdaa.Print

namespace Go.Proofs.Ytkdlbocjgbmbdaa.Print
open Go.RowKit Go.Proofs.YtkdlbocjgbmbdaaW.PrintWords Go.Proofs.YtkdlbocjgbmbdaaW.PrintLast Go.Proofs.YtkdlbocjgbmbdaaW.PrintMore
attribute [local go_sem] max2_int min2_int max_two min_two max_three min_three max_four min_four   -- for this text's walks alone
set_option linter.unusedVariables false
set_option linter.unusedSimpArgs false
def swarfkit_EqualInts.l0 : Nat → List Int → List Int → Bool → Int → Option (Bool)
  | 0, _, _, _, _ => none
  | k + 1, x0, x1, x5, x6 => if x5 = true then (if x6 < (x0.length : Int) then (if 0 ≤ x6 then (if x6 < (x1.length : Int) then (swarfkit_EqualInts.l0 k x0 x1 ((rd x0 x6) == (rd x1 x6)) (wrap64 (x6 + 1))) else (none)) else (none)) else (some x5)) else (some x5)
def swarfkit_EqualInts.f (k : Nat) (l0 : List Int) (l1 : List Int) : Option (Bool) := swarfkit_EqualInts.l0 k l0 l1 ((l0.length : Int) == (l1.length : Int)) 0
theorem swarfkit_EqualInts.mono_l : ∀ k, (∀ y0 y1 y2 y3, LeO (swarfkit_EqualInts.l0 k y0 y1 y2 y3) (swarfkit_EqualInts.l0 (k + 1) y0 y1 y2 y3))
  | 0 => fun _ _ _ _ r h => by simp [swarfkit_EqualInts.l0] at h
  | k + 1 => by
    have ih0 := swarfkit_EqualInts.mono_l k
    · intro y0 y1 y2 y3
      unfold swarfkit_EqualInts.l0
      repeat' first
      | (with_reducible exact ih0 _ _ _ _)
      | (with_reducible exact LeO.refl _)
      | (with_reducible exact LeO.none _)
      | (with_reducible refine LeO.ite ?_ ?_)
      | (with_reducible refine LeO.bind ?_ (fun _ => ?_))
      | exact ih0 _ _ _ _
      | exact LeO.none _
      | refine LeO.ite ?_ ?_
      | refine LeO.bind ?_ (fun _ => ?_)
theorem swarfkit_EqualInts.mono : ∀ a0 a1 k, LeO (swarfkit_EqualInts.f k a0 a1) (swarfkit_EqualInts.f (k + 1) a0 a1) := by
  intro a0 a1 k
  have ih0 := swarfkit_EqualInts.mono_l k
  unfold swarfkit_EqualInts.f
  repeat' first
      | (with_reducible exact ih0 _ _ _ _)
      | (with_reducible exact LeO.refl _)
      | (with_reducible exact LeO.none _)
      | (with_reducible refine LeO.ite ?_ ?_)
      | (with_reducible refine LeO.bind ?_ (fun _ => ?_))
      | exact ih0 _ _ _ _
      | exact LeO.none _
      | refine LeO.ite ?_ ?_
      | refine LeO.bind ?_ (fun _ => ?_)
set_option maxHeartbeats 8000000 in
set_option maxRecDepth 100000 in
theorem swarfkit_EqualInts.calls (k : Nat) (A0 : Option Addr) (c0 : Nat) (l0 : List Int) (A1 : Option Addr) (c1 : Nat) (l1 : List Int) (r : Bool) (w : World) (hr0 : Kd.C (Kd.int .i64) w A0 l0.length l0) (hc0 : l0.length ≤ c0) (hr1 : Kd.C (Kd.int .i64) w A1 l1.length l1) (hc1 : l1.length ≤ c1) (h : swarfkit_EqualInts.f k l0 l1 = some r) :
    Calls Try.prog 46 #[.slice A0 l0.length c0, .slice A1 l1.length c1] w fun e w' => e = .returned (.bool r) ∧ Drawn0 w w' := by
  have HR0 := Aside0.mk hr0
  have HC0 := Aside0.mk hc0
  clear hr0 hc0
  have HR1 := Aside0.mk hr1
  have HC1 := Aside0.mk hc1
  clear hr1 hc1
  have H : (swarfkit_EqualInts.l0 k l0 l1 ((l0.length : Int) == (l1.length : Int)) 0) = some r := h
  clear h
  have H' := Aside0.mk H
  clear H
  go_enter Try.func46, Try.ntmps46
  go_wp2
  repeat (go_quiet (fail); try go_wp2)
  go_loopg [5, 6] k (fun kq v5 v6 w' => ∃ (x5_1 : Bool) (x6_1 : Int), v5 = .bool x5_1 ∧ v6 = .int .i64 x6_1 ∧ Aside0 (swarfkit_EqualInts.l0 kq l0 l1 x5_1 x6_1 = some r) ∧ Aside0 (kq ≤ k) ∧ Drawn0 w w')
  case atStart => exact ⟨(((l0.length : Int) == (l1.length : Int))), (0), (by first | rfl | (simp; done) | (simp [*]; done)), (by first | rfl | (simp; done) | (simp [*]; done)), H', ⟨Nat.le_refl _⟩, by repeat (first | exact Drawn0.refl _ | apply Drawn0.step)⟩
  case round =>
    clear H'
    try clear c1
    try clear p2
    obtain ⟨x5_1, x6_1, rfl, rfl, HA, HK1, ⟨m1, rfl⟩⟩ := hrel
    cases gk with
    | zero => exact absurd HA.out (by simp [swarfkit_EqualInts.l0])
    | succ k1 =>
      have H := HA.out
      clear HA
      simp only [swarfkit_EqualInts.l0] at H
      by_cases c3 : x5_1 = true
      · subst c3
        have H1 : (if x6_1 < (l0.length : Int) then (if 0 ≤ x6_1 then (if x6_1 < (l1.length : Int) then (swarfkit_EqualInts.l0 k1 l0 l1 ((rd l0 x6_1) == (rd l1 x6_1)) (wrap64 (x6_1 + 1))) else (none)) else (none)) else (some true)) = some r := by rw [if_pos rfl] at H; exact H
        clear H
        have H := H1
        clear H1
        by_cases c4 : x6_1 < (l0.length : Int)
        · rw [if_pos c4] at H
          have c4b0 : decide (x6_1 < (l0.length : Int)) = true := decide_eq_true c4
          clear c4
          by_cases c5 : 0 ≤ x6_1
          · rw [if_pos c5] at H
            have c5b0 : decide (0 ≤ x6_1) = true := decide_eq_true c5
            clear c5
            by_cases c6 : x6_1 < (l1.length : Int)
            · rw [if_pos c6] at H
              have c6b0 : decide (x6_1 < (l1.length : Int)) = true := decide_eq_true c6
              clear c6
              have H' := Aside0.mk H
              clear H
              have p158 : 0 ≤ (x6_1 : Int) := of_decide_eq_true (by first | (with_reducible assumption) | assumption)
              have q158 : x6_1 < (l0.length : Int) := of_decide_eq_true (by first | (with_reducible assumption) | assumption)
              obtain ⟨ad158, e158, hx158_0⟩ := Kd.at_int HR0.out x6_1 p158 q158
              cases e158
              replace p158 := eq_true p158
              replace q158 := eq_true q158
              have p159 : 0 ≤ (x6_1 : Int) := of_decide_eq_true (by first | (with_reducible assumption) | assumption)
              have q159 : x6_1 < (l1.length : Int) := of_decide_eq_true (by first | (with_reducible assumption) | assumption)
              obtain ⟨ad159, e159, hx159_0⟩ := Kd.at_int HR1.out x6_1 p159 q159
              cases e159
              replace p159 := eq_true p159
              replace q159 := eq_true q159
              go_wp2
              repeat (go_quiet (fail); try go_wp2)
              go_roundg k1
              case measure => have := HK1.out; omega
              case rel => exact ⟨(((rd l0 x6_1) == (rd l1 x6_1))), (wrap64 (x6_1 + 1)), (by first | rfl | (simp; done) | (simp [*]; done)), (by first | rfl | (simp; done) | (simp [*]; done)), H', ⟨by have := HK1.out; omega⟩, by repeat (first | exact Drawn0.refl _ | apply Drawn0.step)⟩
            · rw [if_neg c6] at H
              exact absurd H (by simp)
          · rw [if_neg c5] at H
            exact absurd H (by simp)
        · rw [if_neg c4] at H
          have c4b0 : decide (x6_1 < (l0.length : Int)) = false := decide_eq_false c4
          clear c4
          obtain rfl := Option.some.inj H
          go_wp2
          repeat (go_quiet (fail); try go_wp2)
          go_ret
          exact ⟨by first | rfl | (simp; done) | (simp [*]; done), by repeat (first | exact Drawn0.refl _ | apply Drawn0.step)⟩
      · replace c3 := Bool.eq_false_iff.mpr c3
        subst c3
        have H1 : (some false) = some r := by rw [if_neg (show ¬ (false = true) by decide)] at H; exact H
        clear H
        have H := H1
        clear H1
        obtain rfl := Option.some.inj H
        go_wp2
        repeat (go_quiet (fail); try go_wp2)
        go_ret
        exact ⟨by first | rfl | (simp; done) | (simp [*]; done), by repeat (first | exact Drawn0.refl _ | apply Drawn0.step)⟩
mutual
def pay_checkHedge.l0 : Nat → List (S24) → Int → Int → List (S24) → Int → Int → Int → Option (Int)
  | 0, _, _, _, _, _, _, _ => none
  | k + 1, x16, x17, x18, x161000, x161001, x161002, x161003 => if x18 < x17 then (if 0 ≤ x18 then (if x18 < (x16.length : Int) then ((pay_in.f ((rd_T24 x16 x18).f0) 0 1000000).bind fun t163 => (if t163 = true then ((pay_in.f ((rd_T24 x16 x18).f1) 0 1000000).bind fun t164 => (pay_checkHedge.j1 k x16 x17 x18 (!t164) x161000 x161001 x161002 x161003 ((rd_T24 x16 x18).f0) ((rd_T24 x16 x18).f1))) else (pay_checkHedge.j1 k x16 x17 x18 (!t163) x161000 x161001 x161002 x161003 ((rd_T24 x16 x18).f0) ((rd_T24 x16 x18).f1)))) else (none)) else (none)) else ((pay_in.f x161001 1 1000000).bind fun t165 => (if t165 = true then ((pay_in.f x161002 0 1000000).bind fun t166 => (if t166 = true then ((pay_in.f x161003 0 50).bind fun t167 => (if t167 = true then (some 0) else (some 1))) else (some 1))) else (some 1)))
def pay_checkHedge.j1 : Nat → List (S24) → Int → Int → Bool → List (S24) → Int → Int → Int → Int → Int → Option (Int)
  | 0, _, _, _, _, _, _, _, _, _, _ => none
  | k + 1, x16, x17, x18, x22, x161000, x161001, x161002, x161003, x163000, x163001 => if x22 = true then (some 1) else (if x163000 > x163001 then (some 5) else (pay_checkHedge.l0 k x16 x17 (wrap64 (x18 + 1)) x161000 x161001 x161002 x161003))
end
def pay_checkHedge.f (k : Nat) (l0_0 : List (S24)) (a0_1 : Int) (a0_2 : Int) (a0_3 : Int) : Option (Int) := if (l0_0.length : Int) = 0 then (some 7) else (if (l0_0.length : Int) > 20 then (some 6) else (pay_checkHedge.l0 k l0_0 (l0_0.length : Int) 0 l0_0 a0_1 a0_2 a0_3))
theorem pay_checkHedge.mono_l : ∀ k, (∀ y0 y1 y2 y3 y4 y5 y6, LeO (pay_checkHedge.l0 k y0 y1 y2 y3 y4 y5 y6) (pay_checkHedge.l0 (k + 1) y0 y1 y2 y3 y4 y5 y6)) ∧ (∀ y0 y1 y2 y3 y4 y5 y6 y7 y8 y9, LeO (pay_checkHedge.j1 k y0 y1 y2 y3 y4 y5 y6 y7 y8 y9) (pay_checkHedge.j1 (k + 1) y0 y1 y2 y3 y4 y5 y6 y7 y8 y9))
  | 0 => ⟨fun _ _ _ _ _ _ _ r h => by simp [pay_checkHedge.l0] at h, fun _ _ _ _ _ _ _ _ _ _ r h => by simp [pay_checkHedge.j1] at h⟩
  | k + 1 => by
    obtain ⟨ih0, ih1⟩ := pay_checkHedge.mono_l k
    refine ⟨?_, ?_⟩
    · intro y0 y1 y2 y3 y4 y5 y6
      unfold pay_checkHedge.l0
      repeat' first
      | (with_reducible exact ih0 _ _ _ _ _ _ _)
      | (with_reducible exact ih1 _ _ _ _ _ _ _ _ _ _)
      | (with_reducible exact LeO.refl _)
      | (with_reducible exact LeO.none _)
      | (with_reducible refine LeO.ite ?_ ?_)
      | (with_reducible refine LeO.bind ?_ (fun _ => ?_))
      | exact ih0 _ _ _ _ _ _ _
      | exact ih1 _ _ _ _ _ _ _ _ _ _
      | exact LeO.none _
      | refine LeO.ite ?_ ?_
      | refine LeO.bind ?_ (fun _ => ?_)
    · intro y0 y1 y2 y3 y4 y5 y6 y7 y8 y9
      unfold pay_checkHedge.j1
      repeat' first
      | (with_reducible exact ih0 _ _ _ _ _ _ _)
      | (with_reducible exact ih1 _ _ _ _ _ _ _ _ _ _)
      | (with_reducible exact LeO.refl _)
      | (with_reducible exact LeO.none _)
      | (with_reducible refine LeO.ite ?_ ?_)
      | (with_reducible refine LeO.bind ?_ (fun _ => ?_))
      | exact ih0 _ _ _ _ _ _ _
      | exact ih1 _ _ _ _ _ _ _ _ _ _
      | exact LeO.none _
      | refine LeO.ite ?_ ?_
      | refine LeO.bind ?_ (fun _ => ?_)
theorem pay_checkHedge.mono : ∀ a0 a1 a2 a3 k, LeO (pay_checkHedge.f k a0 a1 a2 a3) (pay_checkHedge.f (k + 1) a0 a1 a2 a3) := by
  intro a0 a1 a2 a3 k
  obtain ⟨ih0, ih1⟩ := pay_checkHedge.mono_l k
  unfold pay_checkHedge.f
  repeat' first
      | (with_reducible exact ih0 _ _ _ _ _ _ _)
      | (with_reducible exact ih1 _ _ _ _ _ _ _ _ _ _)
      | (with_reducible exact LeO.refl _)
      | (with_reducible exact LeO.none _)
      | (with_reducible refine LeO.ite ?_ ?_)
      | (with_reducible refine LeO.bind ?_ (fun _ => ?_))
      | exact ih0 _ _ _ _ _ _ _
      | exact ih1 _ _ _ _ _ _ _ _ _ _
      | exact LeO.none _
      | refine LeO.ite ?_ ?_
      | refine LeO.bind ?_ (fun _ => ?_)
set_option maxHeartbeats 8000000 in
set_option maxRecDepth 100000 in
theorem pay_checkHedge.calls (k : Nat) (A0_0 : Option Addr) (c0_0 : Nat) (l0_0 : List (S24)) (a0_1 : Int) (a0_2 : Int) (a0_3 : Int) (r : Int) (w : World) (hr0_0 : Kd.C k24 w A0_0 l0_0.length l0_0) (hc0_0 : l0_0.length ≤ c0_0) (h : pay_checkHedge.f k l0_0 a0_1 a0_2 a0_3 = some r) :
    Calls Try.prog 103 #[.agg #[.slice A0_0 l0_0.length c0_0, .int .i64 a0_1, .int .i64 a0_2, .int .i64 a0_3]] w fun e w' => e = .returned (.int .i64 r) ∧ Below w.heap.size w w' := by
  have hu87 := Try.underlying87
  have hu24 := Try.underlying24
  have HR0_0 := Aside0.mk hr0_0
  have HC0_0 := Aside0.mk hc0_0
  clear hr0_0 hc0_0
  have HB := Aside0.mk (Below.refl w.heap.size w)
  have H : (if (l0_0.length : Int) = 0 then (some 7) else (if (l0_0.length : Int) > 20 then (some 6) else (pay_checkHedge.l0 k l0_0 (l0_0.length : Int) 0 l0_0 a0_1 a0_2 a0_3))) = some r := h
  clear h
  by_cases c2 : (l0_0.length : Int) = 0
  · rw [if_pos c2] at H
    have c2b0 : ((l0_0.length : Int) == 0) = true := beq_iff_eq.mpr c2
    have c2b1 : ((l0_0.length : Int) != 0) = false := bne_eq_false_iff_eq.mpr c2
    clear c2
    obtain rfl := Option.some.inj H
    go_enter Try.func103, Try.ntmps103
    go_wp2_with (first | ((with_reducible refine gate_dst (N := 1) rfl ?_); refine box_event ?hg (N := 1) ?hd (cs := #[.slice A0_0 l0_0.length c0_0, .int .i64 a0_1, .int .i64 a0_2, .int .i64 a0_3]) (t := 87) ?hr ?_; (case hd => rfl); (case hg => rfl); (case hr => first | (go_simp; done) | (go_simp; rfl)); intro gb160 hg w3 hbox hb; have n0_ := Aside0.mk (below_step (by repeat (first | (with_reducible first | exact HB.out | apply below_alloc | apply pw_below_drewN | apply below_drew1) | exact HB.out)) hb); have n1_ := Aside0.mk (hbox); have n2_ := Aside0.mk ((by rw [hg]; exact (below_size (by repeat (first | (with_reducible first | exact HB.out | apply below_alloc | apply pw_below_drewN | apply below_drew1) | exact HB.out))) : w.heap.size ≤ gb160)); have n3_ := Aside0.mk ((by rw [hg]; exact (below_size (by repeat (first | (with_reducible first | exact HB.out | apply below_alloc | apply pw_below_drewN | apply below_drew1) | exact HB.out))) : w.heap.size ≤ gb160)); clear HB; have HB := n0_; have BK160 := n1_; have GW160 := n2_; have GE160 := n3_; clear n0_ n1_ n2_ n3_; clear hb hbox hg; have hcz4_0 : w3.cell? ⟨gb160, 0, none⟩ = some (.slice A0_0 l0_0.length c0_0) := (blk_cell BK160.out 0).trans rfl; have hcz4_1 : w3.cell? ⟨gb160, 1, none⟩ = some (.int .i64 a0_1) := (blk_cell BK160.out 1).trans rfl; have hcz4_2 : w3.cell? ⟨gb160, 2, none⟩ = some (.int .i64 a0_2) := (blk_cell BK160.out 2).trans rfl; have hcz4_3 : w3.cell? ⟨gb160, 3, none⟩ = some (.int .i64 a0_3) := (blk_cell BK160.out 3).trans rfl; have hfz4_0 := blk_frozen BK160.out 0; have hfz4_1 := blk_frozen BK160.out 1; have hfz4_2 := blk_frozen BK160.out 2; have hfz4_3 := blk_frozen BK160.out 3))
    go_ret
    exact ⟨by first | rfl | (simp [errW_none, errW_some] <;> rfl) | (simp [*, errW_none, errW_some] <;> rfl), by repeat (first | (with_reducible first | exact HB.out | apply below_alloc | apply pw_below_drewN | apply below_drew1 | refine below_set ?_ GE160.out) | exact HB.out)⟩
  · rw [if_neg c2] at H
    have c2b0 : ((l0_0.length : Int) == 0) = false := beq_eq_false_iff_ne.mpr c2
    have c2b1 : ((l0_0.length : Int) != 0) = true := bne_iff_ne.mpr c2
    have c2b2 : ¬ (l0_0 = []) := fun h_ => c2 (by rw [h_]; rfl)
    by_cases c5 : (l0_0.length : Int) > 20
    · rw [if_pos c5] at H
      have c5b0 : decide (20 < (l0_0.length : Int)) = true := decide_eq_true c5
      have c5b1 : decide (20 < l0_0.length) = true := decide_eq_true (by omega)
      clear c5
      obtain rfl := Option.some.inj H
      go_enter Try.func103, Try.ntmps103
      go_wp2_with (first | ((with_reducible refine gate_dst (N := 1) rfl ?_); refine box_event ?hg (N := 1) ?hd (cs := #[.slice A0_0 l0_0.length c0_0, .int .i64 a0_1, .int .i64 a0_2, .int .i64 a0_3]) (t := 87) ?hr ?_; (case hd => rfl); (case hg => rfl); (case hr => first | (go_simp; done) | (go_simp; rfl)); intro gb160 hg w6 hbox hb; have n0_ := Aside0.mk (below_step (by repeat (first | (with_reducible first | exact HB.out | apply below_alloc | apply pw_below_drewN | apply below_drew1) | exact HB.out)) hb); have n1_ := Aside0.mk (hbox); have n2_ := Aside0.mk ((by rw [hg]; exact (below_size (by repeat (first | (with_reducible first | exact HB.out | apply below_alloc | apply pw_below_drewN | apply below_drew1) | exact HB.out))) : w.heap.size ≤ gb160)); have n3_ := Aside0.mk ((by rw [hg]; exact (below_size (by repeat (first | (with_reducible first | exact HB.out | apply below_alloc | apply pw_below_drewN | apply below_drew1) | exact HB.out))) : w.heap.size ≤ gb160)); clear HB; have HB := n0_; have BK160 := n1_; have GW160 := n2_; have GE160 := n3_; clear n0_ n1_ n2_ n3_; clear hb hbox hg; have hcz7_0 : w6.cell? ⟨gb160, 0, none⟩ = some (.slice A0_0 l0_0.length c0_0) := (blk_cell BK160.out 0).trans rfl; have hcz7_1 : w6.cell? ⟨gb160, 1, none⟩ = some (.int .i64 a0_1) := (blk_cell BK160.out 1).trans rfl; have hcz7_2 : w6.cell? ⟨gb160, 2, none⟩ = some (.int .i64 a0_2) := (blk_cell BK160.out 2).trans rfl; have hcz7_3 : w6.cell? ⟨gb160, 3, none⟩ = some (.int .i64 a0_3) := (blk_cell BK160.out 3).trans rfl; have hfz7_0 := blk_frozen BK160.out 0; have hfz7_1 := blk_frozen BK160.out 1; have hfz7_2 := blk_frozen BK160.out 2; have hfz7_3 := blk_frozen BK160.out 3))
      go_ret
      exact ⟨by first | rfl | (simp [errW_none, errW_some] <;> rfl) | (simp [*, errW_none, errW_some] <;> rfl), by repeat (first | (with_reducible first | exact HB.out | apply below_alloc | apply pw_below_drewN | apply below_drew1 | refine below_set ?_ GE160.out) | exact HB.out)⟩
    · rw [if_neg c5] at H
      have c5b0 : decide (20 < (l0_0.length : Int)) = false := decide_eq_false c5
      have c5b1 : decide (20 < l0_0.length) = false := decide_eq_false (by omega)
      clear c5
      have H' := Aside0.mk H
      clear H
      go_enter Try.func103, Try.ntmps103
      go_wp2_with (first | ((with_reducible refine gate_dst (N := 1) rfl ?_); refine box_event ?hg (N := 1) ?hd (cs := #[.slice A0_0 l0_0.length c0_0, .int .i64 a0_1, .int .i64 a0_2, .int .i64 a0_3]) (t := 87) ?hr ?_; (case hd => rfl); (case hg => rfl); (case hr => first | (go_simp; done) | (go_simp; rfl)); intro gb160 hg w8 hbox hb; have n0_ := Aside0.mk (below_step (by repeat (first | (with_reducible first | exact HB.out | apply below_alloc | apply pw_below_drewN | apply below_drew1) | exact HB.out)) hb); have n1_ := Aside0.mk (hbox); have n2_ := Aside0.mk ((by rw [hg]; exact (below_size (by repeat (first | (with_reducible first | exact HB.out | apply below_alloc | apply pw_below_drewN | apply below_drew1) | exact HB.out))) : w.heap.size ≤ gb160)); have n3_ := Aside0.mk ((by rw [hg]; exact (below_size (by repeat (first | (with_reducible first | exact HB.out | apply below_alloc | apply pw_below_drewN | apply below_drew1) | exact HB.out))) : w.heap.size ≤ gb160)); clear HB; have HB := n0_; have BK160 := n1_; have GW160 := n2_; have GE160 := n3_; clear n0_ n1_ n2_ n3_; clear hb hbox hg; have hcz9_0 : w8.cell? ⟨gb160, 0, none⟩ = some (.slice A0_0 l0_0.length c0_0) := (blk_cell BK160.out 0).trans rfl; have hcz9_1 : w8.cell? ⟨gb160, 1, none⟩ = some (.int .i64 a0_1) := (blk_cell BK160.out 1).trans rfl; have hcz9_2 : w8.cell? ⟨gb160, 2, none⟩ = some (.int .i64 a0_2) := (blk_cell BK160.out 2).trans rfl; have hcz9_3 : w8.cell? ⟨gb160, 3, none⟩ = some (.int .i64 a0_3) := (blk_cell BK160.out 3).trans rfl; have hfz9_0 := blk_frozen BK160.out 0; have hfz9_1 := blk_frozen BK160.out 1; have hfz9_2 := blk_frozen BK160.out 2; have hfz9_3 := blk_frozen BK160.out 3))
      go_loopg [18] k (fun kq v18 w' => ∃ (x18_1 : Int), v18 = .int .i64 x18_1 ∧ Aside0 (pay_checkHedge.l0 kq l0_0 (l0_0.length : Int) x18_1 l0_0 a0_1 a0_2 a0_3 = some r) ∧ Aside0 (kq ≤ k) ∧ Aside0 (w'.heap[gb160]? = some (.cells #[(.slice A0_0 l0_0.length c0_0), .int .i64 a0_1, .int .i64 a0_2, .int .i64 a0_3] 87 (0, 0))) ∧ Aside0 (Below w.heap.size w w'))
      case atStart => exact ⟨(0), (by first | rfl | (simp; done) | (simp [*]; done)), H', ⟨Nat.le_refl _⟩, ⟨by (with_reducible repeat (first | refine blk_drewN ?_ _ | refine blk_drew ?_ | refine blk_alloc ?_ _)); exact BK160.out⟩, ⟨by repeat (first | (with_reducible first | exact HB.out | apply below_alloc | apply pw_below_drewN | apply below_drew1 | refine below_set ?_ GE160.out) | exact HB.out)⟩⟩
      case round =>
        clear H'
        try clear c1
        try clear c2
        try clear c2b0
        try clear c2b1
        try clear c2b2
        try clear p2
        try clear c5
        try clear c5b0
        try clear c5b1
        try clear hcz4_0
        try clear hcz4_1
        try clear hcz4_2
        try clear hcz4_3
        try clear hcz7_0
        try clear hcz7_1
        try clear hcz7_2
        try clear hcz7_3
        try clear hcz9_0
        try clear hcz9_1
        try clear hcz9_2
        try clear hcz9_3
        try clear hfz4_0
        try clear hfz4_1
        try clear hfz4_2
        try clear hfz4_3
        try clear hfz7_0
        try clear hfz7_1
        try clear hfz7_2
        try clear hfz7_3
        try clear hfz9_0
        try clear hfz9_1
        try clear hfz9_2
        try clear hfz9_3
        obtain ⟨x18_1, rfl, HA, HK1, BK160, HB⟩ := hrel
        cases gk with
        | zero => exact absurd HA.out (by simp [pay_checkHedge.l0])
        | succ k1 =>
          have H := HA.out
          clear HA
          simp only [pay_checkHedge.l0] at H
          by_cases c10 : x18_1 < (l0_0.length : Int)
          · rw [if_pos c10] at H
            have c10b0 : decide (x18_1 < (l0_0.length : Int)) = true := decide_eq_true c10
            clear c10
            by_cases c11 : 0 ≤ x18_1
            · rw [if_pos c11] at H
              have c11b0 : decide (0 ≤ x18_1) = true := decide_eq_true c11
              clear c11
              by_cases c12 : x18_1 < (l0_0.length : Int)
              · rw [if_pos c12] at H
                have c12b0 : decide (x18_1 < (l0_0.length : Int)) = true := decide_eq_true c12
                clear c12
                replace H := Option.bind_eq_some_iff.mp H
                obtain ⟨t163, A130, H⟩ := H
                replace H : (if t163 = true then ((pay_in.f ((rd_T24 l0_0 x18_1).f1) 0 1000000).bind fun t164 => (pay_checkHedge.j1 k1 l0_0 (l0_0.length : Int) x18_1 (!t164) l0_0 a0_1 a0_2 a0_3 ((rd_T24 l0_0 x18_1).f0) ((rd_T24 l0_0 x18_1).f1))) else (pay_checkHedge.j1 k1 l0_0 (l0_0.length : Int) x18_1 (!t163) l0_0 a0_1 a0_2 a0_3 ((rd_T24 l0_0 x18_1).f0) ((rd_T24 l0_0 x18_1).f1))) = some r := H
                have A13 := Aside0.mk A130
                clear A130
                have HC14 := Aside0.mk H
                clear H
                have p161 : 0 ≤ (x18_1 : Int) := of_decide_eq_true (by first | (with_reducible assumption) | assumption)
                have q161 : x18_1 < (l0_0.length : Int) := of_decide_eq_true (by first | (with_reducible assumption) | assumption)
                obtain ⟨ad161, e161, hx161_0, hx161_1⟩ := at_T24 HR0_0.out x18_1 p161 q161
                cases e161
                replace hx161_0 := (HB.out.cell (World.block_lt_of_cell? w _ hx161_0)).trans hx161_0
                replace hx161_1 := (HB.out.cell (World.block_lt_of_cell? w _ hx161_1)).trans hx161_1
                replace p161 := eq_true p161
                replace q161 := eq_true q161
                go_upto_if 22 with (first | ((with_reducible refine gate_dst (N := 4) rfl ?_); refine box_event ?hg (N := 4) ?hd (cs := #[.int .i64 0, .int .i64 0]) (t := 24) ?hr ?_; (case hd => rfl); (case hg => rfl); (case hr => first | (go_simp; done) | (go_simp; rfl)); intro gb162 hg w15 hbox hb; have n0_ := Aside0.mk (blk_below (g := gb160) (o := .cells #[.slice (some ad161) l0_0.length c0_0, .int .i64 a0_1, .int .i64 a0_2, .int .i64 a0_3] 87 (0, 0)) (by (with_reducible repeat (first | refine blk_drewN ?_ _ | refine blk_drew ?_ | refine blk_alloc ?_ _)); exact BK160.out) hb); have n1_ := Aside0.mk (below_step (by repeat (first | (with_reducible first | exact HB.out | apply below_alloc | apply pw_below_drewN | apply below_drew1 | refine below_set ?_ GE160.out) | exact HB.out)) hb); have n2_ := Aside0.mk (hbox); have n3_ := Aside0.mk ((by rw [hg]; exact (below_size (by repeat (first | (with_reducible first | exact HB.out | apply below_alloc | apply pw_below_drewN | apply below_drew1 | refine below_set ?_ GE160.out) | exact HB.out))) : w.heap.size ≤ gb162)); have n4_ := Aside0.mk ((by rw [hg]; exact (below_size (by repeat (first | (with_reducible first | exact HB.out | apply below_alloc | apply pw_below_drewN | apply below_drew1 | refine below_set ?_ GE160.out) | exact HB.out))) : w.heap.size ≤ gb162)); have n5_ := Aside0.mk ((by rw [hg]; exact Nat.ne_of_lt (blk_lt (g := gb160) (o := .cells #[.slice (some ad161) l0_0.length c0_0, .int .i64 a0_1, .int .i64 a0_2, .int .i64 a0_3] 87 (0, 0)) (by (with_reducible repeat (first | refine blk_drewN ?_ _ | refine blk_drew ?_ | refine blk_alloc ?_ _)); exact BK160.out)) : gb160 ≠ gb162)); have n6_ := Aside0.mk ((by rw [hg]; exact Nat.ne_of_gt (blk_lt (g := gb160) (o := .cells #[.slice (some ad161) l0_0.length c0_0, .int .i64 a0_1, .int .i64 a0_2, .int .i64 a0_3] 87 (0, 0)) (by (with_reducible repeat (first | refine blk_drewN ?_ _ | refine blk_drew ?_ | refine blk_alloc ?_ _)); exact BK160.out)) : gb162 ≠ gb160)); clear BK160; clear HB; have BK160 := n0_; have HB := n1_; have BK162 := n2_; have GW162 := n3_; have GE162 := n4_; have NB160_162 := n5_; have NB162_160 := n6_; clear n0_ n1_ n2_ n3_ n4_ n5_ n6_; clear hb hbox hg; have hnb16 := NB162_160.out; have hnc16 := NB160_162.out; have hcz17_0 : w15.cell? ⟨gb162, 0, none⟩ = some (.int .i64 0) := (blk_cell BK162.out 0).trans rfl; have hcz17_1 : w15.cell? ⟨gb162, 1, none⟩ = some (.int .i64 0) := (blk_cell BK162.out 1).trans rfl; have hfz17_0 := blk_frozen BK162.out 0; have hfz17_1 := blk_frozen BK162.out 1) | ((with_reducible refine gate_callee (f := 81) rfl ?_); refine goesL_ (some 25) rfl rfl Try.func81 (by kernel_rfl) rfl #[.int .i64 ((rd_T24 l0_0 x18_1).f0), .int .i64 0, .int .i64 1000000] rfl (by (try simp only [List.map_toArray, List.map_cons, List.map_nil]); first | done | rfl | (simp only [List.length_drop, List.length_take]; rfl)) ?_; (with_reducible refine (pay_in.calls ((rd_T24 l0_0 x18_1).f0) 0 1000000 t163 _ A13.out).mono ?_); rintro e w' ⟨rfl, ⟨nd, rfl⟩⟩; refine ⟨_, rfl, ?_⟩))
                (try simp only [Act.put, List.setIfInBounds_toArray, List.set_cons_zero, List.set_cons_succ])
                go_cut [22] (fun v22 wc => ∃ (kq : Nat) (x22_13 : Bool), v22 = .bool x22_13 ∧ Aside0 (pay_checkHedge.j1 kq l0_0 (l0_0.length : Int) x18_1 x22_13 l0_0 a0_1 a0_2 a0_3 ((rd_T24 l0_0 x18_1).f0) ((rd_T24 l0_0 x18_1).f1) = some r) ∧ Aside0 (kq ≤ k1) ∧ Aside0 (wc.heap[gb160]? = some (.cells #[(.slice (some ad161) l0_0.length c0_0), .int .i64 a0_1, .int .i64 a0_2, .int .i64 a0_3] 87 (0, 0))) ∧ Aside0 (wc.heap[gb162]? = some (.cells #[.int .i64 ((rd_T24 l0_0 x18_1).f0), .int .i64 ((rd_T24 l0_0 x18_1).f1)] 24 (0, 0))) ∧ Aside0 (Below w.heap.size w wc))
                case first =>
                  have H := HC14.out
                  clear HC14
                  by_cases c18 : t163 = true
                  · subst c18
                    have H1 : ((pay_in.f ((rd_T24 l0_0 x18_1).f1) 0 1000000).bind fun t164 => (pay_checkHedge.j1 k1 l0_0 (l0_0.length : Int) x18_1 (!t164) l0_0 a0_1 a0_2 a0_3 ((rd_T24 l0_0 x18_1).f0) ((rd_T24 l0_0 x18_1).f1))) = some r := by rw [if_pos rfl] at H; exact H
                    clear H
                    have H := H1
                    clear H1
                    replace H := Option.bind_eq_some_iff.mp H
                    obtain ⟨t164, A190, H⟩ := H
                    replace H : (pay_checkHedge.j1 k1 l0_0 (l0_0.length : Int) x18_1 (!t164) l0_0 a0_1 a0_2 a0_3 ((rd_T24 l0_0 x18_1).f0) ((rd_T24 l0_0 x18_1).f1)) = some r := H
                    have A19 := Aside0.mk A190
                    clear A190
                    have H' := Aside0.mk H
                    clear H
                    have hnb20 := NB162_160.out
                    have hnc20 := NB160_162.out
                    have hcz21_0 : w15.cell? ⟨gb162, 0, none⟩ = some (.int .i64 0) := (blk_cell BK162.out 0).trans rfl
                    have hcz21_1 : w15.cell? ⟨gb162, 1, none⟩ = some (.int .i64 0) := (blk_cell BK162.out 1).trans rfl
                    have hfz21_0 := blk_frozen BK162.out 0
                    have hfz21_1 := blk_frozen BK162.out 1
                    go_wp2_with (first | ((with_reducible refine gate_callee (f := 81) rfl ?_); refine goesL_ (some 29) rfl rfl Try.func81 (by kernel_rfl) rfl #[.int .i64 ((rd_T24 l0_0 x18_1).f1), .int .i64 0, .int .i64 1000000] rfl (by (try simp only [List.map_toArray, List.map_cons, List.map_nil]); first | done | rfl | (simp only [List.length_drop, List.length_take]; rfl)) ?_; (with_reducible refine (pay_in.calls ((rd_T24 l0_0 x18_1).f1) 0 1000000 t164 _ A19.out).mono ?_); rintro e w' ⟨rfl, ⟨nd, rfl⟩⟩; refine ⟨_, rfl, ?_⟩))
                    go_meet
                    case rel => exact ⟨_, (!t164), (by first | rfl | (simp; done) | (simp [*]; done)), H', ⟨by have := HK1.out; first | omega | exact Nat.le_refl _⟩, ⟨by (with_reducible repeat (first | refine blk_drewN ?_ _ | refine blk_drew ?_ | refine blk_alloc ?_ _)); refine blk_far ?_ NB160_162.out _; (with_reducible repeat (first | refine blk_drewN ?_ _ | refine blk_drew ?_ | refine blk_alloc ?_ _)); refine blk_far ?_ NB160_162.out _; (with_reducible repeat (first | refine blk_drewN ?_ _ | refine blk_drew ?_ | refine blk_alloc ?_ _)); exact BK160.out⟩, ⟨by (with_reducible repeat (first | refine blk_drewN ?_ _ | refine blk_drew ?_ | refine blk_alloc ?_ _)); refine blk_put (cs := #[.int .i64 ((rd_T24 l0_0 x18_1).f0), .int .i64 0]) ?_ 1 _ rfl; (with_reducible repeat (first | refine blk_drewN ?_ _ | refine blk_drew ?_ | refine blk_alloc ?_ _)); refine blk_put (cs := #[.int .i64 0, .int .i64 0]) ?_ 0 _ rfl; (with_reducible repeat (first | refine blk_drewN ?_ _ | refine blk_drew ?_ | refine blk_alloc ?_ _)); exact BK162.out⟩, ⟨by repeat (first | (with_reducible first | exact HB.out | apply below_alloc | apply pw_below_drewN | apply below_drew1 | refine below_set ?_ GE160.out | refine below_set ?_ GE162.out) | exact HB.out)⟩⟩
                  · replace c18 := Bool.eq_false_iff.mpr c18
                    subst c18
                    have H1 : (pay_checkHedge.j1 k1 l0_0 (l0_0.length : Int) x18_1 (!false) l0_0 a0_1 a0_2 a0_3 ((rd_T24 l0_0 x18_1).f0) ((rd_T24 l0_0 x18_1).f1)) = some r := by rw [if_neg (show ¬ (false = true) by decide)] at H; exact H
                    clear H
                    have H := H1
                    clear H1
                    have H' := Aside0.mk H
                    clear H
                    go_wp2
                    go_meet
                    case rel => exact ⟨_, (!false), (by first | rfl | (simp; done) | (simp [*]; done)), H', ⟨by have := HK1.out; first | omega | exact Nat.le_refl _⟩, ⟨by (with_reducible repeat (first | refine blk_drewN ?_ _ | refine blk_drew ?_ | refine blk_alloc ?_ _)); refine blk_far ?_ NB160_162.out _; (with_reducible repeat (first | refine blk_drewN ?_ _ | refine blk_drew ?_ | refine blk_alloc ?_ _)); refine blk_far ?_ NB160_162.out _; (with_reducible repeat (first | refine blk_drewN ?_ _ | refine blk_drew ?_ | refine blk_alloc ?_ _)); exact BK160.out⟩, ⟨by (with_reducible repeat (first | refine blk_drewN ?_ _ | refine blk_drew ?_ | refine blk_alloc ?_ _)); refine blk_put (cs := #[.int .i64 ((rd_T24 l0_0 x18_1).f0), .int .i64 0]) ?_ 1 _ rfl; (with_reducible repeat (first | refine blk_drewN ?_ _ | refine blk_drew ?_ | refine blk_alloc ?_ _)); refine blk_put (cs := #[.int .i64 0, .int .i64 0]) ?_ 0 _ rfl; (with_reducible repeat (first | refine blk_drewN ?_ _ | refine blk_drew ?_ | refine blk_alloc ?_ _)); exact BK162.out⟩, ⟨by repeat (first | (with_reducible first | exact HB.out | apply below_alloc | apply pw_below_drewN | apply below_drew1 | refine below_set ?_ GE160.out | refine below_set ?_ GE162.out) | exact HB.out)⟩⟩
                case rest =>
                  clear HC14
                  try clear c1
                  try clear p1
                  try clear q1
                  try clear hx1
                  try clear c2
                  try clear c2b0
                  try clear c2b1
                  try clear c2b2
                  try clear p2
                  try clear c5
                  try clear c5b0
                  try clear c5b1
                  try clear c8
                  try clear c10
                  try clear c10b0
                  try clear c11
                  try clear c11b0
                  try clear c12
                  try clear c12b0
                  try clear c16
                  try clear p16
                  try clear q16
                  try clear hx16
                  try clear c18
                  try clear c20
                  try clear hcz17_0
                  try clear hcz17_1
                  try clear hcz21_0
                  try clear hcz21_1
                  try clear hcz4_0
                  try clear hcz4_1
                  try clear hcz4_2
                  try clear hcz4_3
                  try clear hcz7_0
                  try clear hcz7_1
                  try clear hcz7_2
                  try clear hcz7_3
                  try clear hcz9_0
                  try clear hcz9_1
                  try clear hcz9_2
                  try clear hcz9_3
                  try clear hfz17_0
                  try clear hfz17_1
                  try clear hfz21_0
                  try clear hfz21_1
                  try clear hfz4_0
                  try clear hfz4_1
                  try clear hfz4_2
                  try clear hfz4_3
                  try clear hfz7_0
                  try clear hfz7_1
                  try clear hfz7_2
                  try clear hfz7_3
                  try clear hfz9_0
                  try clear hfz9_1
                  try clear hfz9_2
                  try clear hfz9_3
                  try clear hx161_0
                  try clear hx161_1
                  try clear p161
                  try clear p2
                  try clear q161
                  obtain ⟨kq, x22_13, rfl, HA, HJ13, BK160, BK162, HB⟩ := hcut
                  cases kq with
                  | zero => exact absurd HA.out (by simp [pay_checkHedge.j1])
                  | succ kj13 =>
                    have H := HA.out
                    clear HA
                    simp only [pay_checkHedge.j1] at H
                    by_cases c22 : x22_13 = true
                    · subst c22
                      have H1 : (some 1) = some r := by rw [if_pos rfl] at H; exact H
                      clear H
                      have H := H1
                      clear H1
                      obtain rfl := Option.some.inj H
                      go_wp2
                      go_ret
                      exact ⟨by first | rfl | (simp [errW_none, errW_some] <;> rfl) | (simp [*, errW_none, errW_some] <;> rfl), by repeat (first | (with_reducible first | exact HB.out | apply below_alloc | apply pw_below_drewN | apply below_drew1 | refine below_set ?_ GE160.out | refine below_set ?_ GE162.out) | exact HB.out)⟩
                    · replace c22 := Bool.eq_false_iff.mpr c22
                      subst c22
                      have H1 : (if ((rd_T24 l0_0 x18_1).f0) > ((rd_T24 l0_0 x18_1).f1) then (some 5) else (pay_checkHedge.l0 kj13 l0_0 (l0_0.length : Int) (wrap64 (x18_1 + 1)) l0_0 a0_1 a0_2 a0_3)) = some r := by rw [if_neg (show ¬ (false = true) by decide)] at H; exact H
                      clear H
                      have H := H1
                      clear H1
                      by_cases c23 : ((rd_T24 l0_0 x18_1).f0) > ((rd_T24 l0_0 x18_1).f1)
                      · rw [if_pos c23] at H
                        have c23b0 : decide (((rd_T24 l0_0 x18_1).f1) < ((rd_T24 l0_0 x18_1).f0)) = true := decide_eq_true c23
                        clear c23
                        obtain rfl := Option.some.inj H
                        have hnb24 := NB162_160.out
                        have hnc24 := NB160_162.out
                        have hcz25_0 : wc.cell? ⟨gb162, 0, none⟩ = some (.int .i64 ((rd_T24 l0_0 x18_1).f0)) := (blk_cell BK162.out 0).trans rfl
                        have hcz25_1 : wc.cell? ⟨gb162, 1, none⟩ = some (.int .i64 ((rd_T24 l0_0 x18_1).f1)) := (blk_cell BK162.out 1).trans rfl
                        have hfz25_0 := blk_frozen BK162.out 0
                        have hfz25_1 := blk_frozen BK162.out 1
                        go_wp2
                        go_ret
                        exact ⟨by first | rfl | (simp [errW_none, errW_some] <;> rfl) | (simp [*, errW_none, errW_some] <;> rfl), by repeat (first | (with_reducible first | exact HB.out | apply below_alloc | apply pw_below_drewN | apply below_drew1 | refine below_set ?_ GE160.out | refine below_set ?_ GE162.out) | exact HB.out)⟩
                      · rw [if_neg c23] at H
                        have c23b0 : decide (((rd_T24 l0_0 x18_1).f1) < ((rd_T24 l0_0 x18_1).f0)) = false := decide_eq_false c23
                        clear c23
                        have H' := Aside0.mk H
                        clear H
                        have hnb26 := NB162_160.out
                        have hnc26 := NB160_162.out
                        have hcz27_0 : wc.cell? ⟨gb162, 0, none⟩ = some (.int .i64 ((rd_T24 l0_0 x18_1).f0)) := (blk_cell BK162.out 0).trans rfl
                        have hcz27_1 : wc.cell? ⟨gb162, 1, none⟩ = some (.int .i64 ((rd_T24 l0_0 x18_1).f1)) := (blk_cell BK162.out 1).trans rfl
                        have hfz27_0 := blk_frozen BK162.out 0
                        have hfz27_1 := blk_frozen BK162.out 1
                        go_wp2
                        go_roundg kj13
                        case measure => have := HK1.out; have := HJ13.out; omega
                        case rel => exact ⟨(wrap64 (x18_1 + 1)), (by first | rfl | (simp; done) | (simp [*]; done)), H', ⟨by have := HK1.out; have := HJ13.out; omega⟩, ⟨by (with_reducible repeat (first | refine blk_drewN ?_ _ | refine blk_drew ?_ | refine blk_alloc ?_ _)); exact BK160.out⟩, ⟨by repeat (first | (with_reducible first | exact HB.out | apply below_alloc | apply pw_below_drewN | apply below_drew1 | refine below_set ?_ GE160.out | refine below_set ?_ GE162.out) | exact HB.out)⟩⟩
              · rw [if_neg c12] at H
                exact absurd H (by simp)
            · rw [if_neg c11] at H
              exact absurd H (by simp)
          · rw [if_neg c10] at H
            have c10b0 : decide (x18_1 < (l0_0.length : Int)) = false := decide_eq_false c10
            clear c10
            replace H := Option.bind_eq_some_iff.mp H
            obtain ⟨t165, A280, H⟩ := H
            replace H : (if t165 = true then ((pay_in.f a0_2 0 1000000).bind fun t166 => (if t166 = true then ((pay_in.f a0_3 0 50).bind fun t167 => (if t167 = true then (some 0) else (some 1))) else (some 1))) else (some 1)) = some r := H
            have A28 := Aside0.mk A280
            clear A280
            by_cases c29 : t165 = true
            · subst c29
              have H1 : ((pay_in.f a0_2 0 1000000).bind fun t166 => (if t166 = true then ((pay_in.f a0_3 0 50).bind fun t167 => (if t167 = true then (some 0) else (some 1))) else (some 1))) = some r := by rw [if_pos rfl] at H; exact H
              clear H
              have H := H1
              clear H1
              replace H := Option.bind_eq_some_iff.mp H
              obtain ⟨t166, A300, H⟩ := H
              replace H : (if t166 = true then ((pay_in.f a0_3 0 50).bind fun t167 => (if t167 = true then (some 0) else (some 1))) else (some 1)) = some r := H
              have A30 := Aside0.mk A300
              clear A300
              by_cases c31 : t166 = true
              · subst c31
                have H1 : ((pay_in.f a0_3 0 50).bind fun t167 => (if t167 = true then (some 0) else (some 1))) = some r := by rw [if_pos rfl] at H; exact H
                clear H
                have H := H1
                clear H1
                replace H := Option.bind_eq_some_iff.mp H
                obtain ⟨t167, A320, H⟩ := H
                replace H : (if t167 = true then (some 0) else (some 1)) = some r := H
                have A32 := Aside0.mk A320
                clear A320
                by_cases c33 : t167 = true
                · subst c33
                  have H1 : (some 0) = some r := by rw [if_pos rfl] at H; exact H
                  clear H
                  have H := H1
                  clear H1
                  obtain rfl := Option.some.inj H
                  have hcz34_0 : wr.cell? ⟨gb160, 0, none⟩ = some (.slice A0_0 l0_0.length c0_0) := (blk_cell BK160.out 0).trans rfl
                  have hcz34_1 : wr.cell? ⟨gb160, 1, none⟩ = some (.int .i64 a0_1) := (blk_cell BK160.out 1).trans rfl
                  have hcz34_2 : wr.cell? ⟨gb160, 2, none⟩ = some (.int .i64 a0_2) := (blk_cell BK160.out 2).trans rfl
                  have hcz34_3 : wr.cell? ⟨gb160, 3, none⟩ = some (.int .i64 a0_3) := (blk_cell BK160.out 3).trans rfl
                  have hfz34_0 := blk_frozen BK160.out 0
                  have hfz34_1 := blk_frozen BK160.out 1
                  have hfz34_2 := blk_frozen BK160.out 2
                  have hfz34_3 := blk_frozen BK160.out 3
                  go_wp2_with (first | ((with_reducible refine gate_callee (f := 81) rfl ?_); refine goesL_ (some 40) rfl rfl Try.func81 (by kernel_rfl) rfl #[.int .i64 a0_1, .int .i64 1, .int .i64 1000000] rfl (by (try simp only [List.map_toArray, List.map_cons, List.map_nil]); first | done | rfl | (simp only [List.length_drop, List.length_take]; rfl)) ?_; (with_reducible refine (pay_in.calls a0_1 1 1000000 true _ A28.out).mono ?_); rintro e w' ⟨rfl, ⟨nd, rfl⟩⟩; refine ⟨_, rfl, ?_⟩) | (go_at_call 81; (with_reducible refine (pay_in.calls a0_2 0 1000000 true _ A30.out).mono ?_); rintro e w' ⟨rfl, ⟨nd, rfl⟩⟩) | (go_at_call 81; (with_reducible refine (pay_in.calls a0_3 0 50 true _ A32.out).mono ?_); rintro e w' ⟨rfl, ⟨nd, rfl⟩⟩))
                  go_ret
                  exact ⟨by first | rfl | (simp [errW_none, errW_some] <;> rfl) | (simp [*, errW_none, errW_some] <;> rfl), by repeat (first | (with_reducible first | exact HB.out | apply below_alloc | apply pw_below_drewN | apply below_drew1 | refine below_set ?_ GE160.out) | exact HB.out)⟩
                · replace c33 := Bool.eq_false_iff.mpr c33
                  subst c33
                  have H1 : (some 1) = some r := by rw [if_neg (show ¬ (false = true) by decide)] at H; exact H
                  clear H
                  have H := H1
                  clear H1
                  obtain rfl := Option.some.inj H
                  have hcz35_0 : wr.cell? ⟨gb160, 0, none⟩ = some (.slice A0_0 l0_0.length c0_0) := (blk_cell BK160.out 0).trans rfl
                  have hcz35_1 : wr.cell? ⟨gb160, 1, none⟩ = some (.int .i64 a0_1) := (blk_cell BK160.out 1).trans rfl
                  have hcz35_2 : wr.cell? ⟨gb160, 2, none⟩ = some (.int .i64 a0_2) := (blk_cell BK160.out 2).trans rfl
                  have hcz35_3 : wr.cell? ⟨gb160, 3, none⟩ = some (.int .i64 a0_3) := (blk_cell BK160.out 3).trans rfl
                  have hfz35_0 := blk_frozen BK160.out 0
                  have hfz35_1 := blk_frozen BK160.out 1
                  have hfz35_2 := blk_frozen BK160.out 2
                  have hfz35_3 := blk_frozen BK160.out 3
                  go_wp2_with (first | ((with_reducible refine gate_callee (f := 81) rfl ?_); refine goesL_ (some 40) rfl rfl Try.func81 (by kernel_rfl) rfl #[.int .i64 a0_1, .int .i64 1, .int .i64 1000000] rfl (by (try simp only [List.map_toArray, List.map_cons, List.map_nil]); first | done | rfl | (simp only [List.length_drop, List.length_take]; rfl)) ?_; (with_reducible refine (pay_in.calls a0_1 1 1000000 true _ A28.out).mono ?_); rintro e w' ⟨rfl, ⟨nd, rfl⟩⟩; refine ⟨_, rfl, ?_⟩) | (go_at_call 81; (with_reducible refine (pay_in.calls a0_2 0 1000000 true _ A30.out).mono ?_); rintro e w' ⟨rfl, ⟨nd, rfl⟩⟩) | (go_at_call 81; (with_reducible refine (pay_in.calls a0_3 0 50 false _ A32.out).mono ?_); rintro e w' ⟨rfl, ⟨nd, rfl⟩⟩))
                  go_ret
                  exact ⟨by first | rfl | (simp [errW_none, errW_some] <;> rfl) | (simp [*, errW_none, errW_some] <;> rfl), by repeat (first | (with_reducible first | exact HB.out | apply below_alloc | apply pw_below_drewN | apply below_drew1 | refine below_set ?_ GE160.out) | exact HB.out)⟩
              · replace c31 := Bool.eq_false_iff.mpr c31
                subst c31
                have H1 : (some 1) = some r := by rw [if_neg (show ¬ (false = true) by decide)] at H; exact H
                clear H
                have H := H1
                clear H1
                obtain rfl := Option.some.inj H
                have hcz36_0 : wr.cell? ⟨gb160, 0, none⟩ = some (.slice A0_0 l0_0.length c0_0) := (blk_cell BK160.out 0).trans rfl
                have hcz36_1 : wr.cell? ⟨gb160, 1, none⟩ = some (.int .i64 a0_1) := (blk_cell BK160.out 1).trans rfl
                have hcz36_2 : wr.cell? ⟨gb160, 2, none⟩ = some (.int .i64 a0_2) := (blk_cell BK160.out 2).trans rfl
                have hcz36_3 : wr.cell? ⟨gb160, 3, none⟩ = some (.int .i64 a0_3) := (blk_cell BK160.out 3).trans rfl
                have hfz36_0 := blk_frozen BK160.out 0
                have hfz36_1 := blk_frozen BK160.out 1
                have hfz36_2 := blk_frozen BK160.out 2
                have hfz36_3 := blk_frozen BK160.out 3
                go_wp2_with (first | ((with_reducible refine gate_callee (f := 81) rfl ?_); refine goesL_ (some 40) rfl rfl Try.func81 (by kernel_rfl) rfl #[.int .i64 a0_1, .int .i64 1, .int .i64 1000000] rfl (by (try simp only [List.map_toArray, List.map_cons, List.map_nil]); first | done | rfl | (simp only [List.length_drop, List.length_take]; rfl)) ?_; (with_reducible refine (pay_in.calls a0_1 1 1000000 true _ A28.out).mono ?_); rintro e w' ⟨rfl, ⟨nd, rfl⟩⟩; refine ⟨_, rfl, ?_⟩) | (go_at_call 81; (with_reducible refine (pay_in.calls a0_2 0 1000000 false _ A30.out).mono ?_); rintro e w' ⟨rfl, ⟨nd, rfl⟩⟩))
                go_ret
                exact ⟨by first | rfl | (simp [errW_none, errW_some] <;> rfl) | (simp [*, errW_none, errW_some] <;> rfl), by repeat (first | (with_reducible first | exact HB.out | apply below_alloc | apply pw_below_drewN | apply below_drew1 | refine below_set ?_ GE160.out) | exact HB.out)⟩
            · replace c29 := Bool.eq_false_iff.mpr c29
              subst c29
              have H1 : (some 1) = some r := by rw [if_neg (show ¬ (false = true) by decide)] at H; exact H
              clear H
              have H := H1
              clear H1
              obtain rfl := Option.some.inj H
              have hcz37_0 : wr.cell? ⟨gb160, 0, none⟩ = some (.slice A0_0 l0_0.length c0_0) := (blk_cell BK160.out 0).trans rfl
              have hcz37_1 : wr.cell? ⟨gb160, 1, none⟩ = some (.int .i64 a0_1) := (blk_cell BK160.out 1).trans rfl
              have hcz37_2 : wr.cell? ⟨gb160, 2, none⟩ = some (.int .i64 a0_2) := (blk_cell BK160.out 2).trans rfl
              have hcz37_3 : wr.cell? ⟨gb160, 3, none⟩ = some (.int .i64 a0_3) := (blk_cell BK160.out 3).trans rfl
              have hfz37_0 := blk_frozen BK160.out 0
              have hfz37_1 := blk_frozen BK160.out 1
              have hfz37_2 := blk_frozen BK160.out 2
              have hfz37_3 := blk_frozen BK160.out 3
              go_wp2_with (first | ((with_reducible refine gate_callee (f := 81) rfl ?_); refine goesL_ (some 40) rfl rfl Try.func81 (by kernel_rfl) rfl #[.int .i64 a0_1, .int .i64 1, .int .i64 1000000] rfl (by (try simp only [List.map_toArray, List.map_cons, List.map_nil]); first | done | rfl | (simp only [List.length_drop, List.length_take]; rfl)) ?_; (with_reducible refine (pay_in.calls a0_1 1 1000000 false _ A28.out).mono ?_); rintro e w' ⟨rfl, ⟨nd, rfl⟩⟩; refine ⟨_, rfl, ?_⟩))
              go_ret
              exact ⟨by first | rfl | (simp [errW_none, errW_some] <;> rfl) | (simp [*, errW_none, errW_some] <;> rfl), by repeat (first | (with_reducible first | exact HB.out | apply below_alloc | apply pw_below_drewN | apply below_drew1 | refine below_set ?_ GE160.out) | exact HB.out)⟩
end Go.Proofs.Ytkdlbocjgbmbdaa.Print

namespace Go.Proofs.Ytkdlbocjgbmbdaa.Print
open Go.RowKit Go.Proofs.YtkdlbocjgbmbdaaW.PrintWords Go.Proofs.YtkdlbocjgbmbdaaW.PrintLast Go.Proofs.YtkdlbocjgbmbdaaW.PrintMore
attribute [local go_sem] max2_int min2_int max_two min_two max_three min_three max_four min_four   -- for this text's walks alone
set_option linter.unusedVariables false
set_option linter.unusedSimpArgs false
def swarflaw08_till.f (a0 : Int) : Option (Int × Int × Int × (List (S84)) × (List (S61))) := some (4, a0, 3, (([(⟨0, 1, true⟩ : S84), (⟨1, 2, false⟩ : S84)] : List (S84))), (([(⟨0, 0, 400, true⟩ : S61), (⟨1, 2, 500, true⟩ : S61), (⟨1, 3, 900, false⟩ : S61), (⟨2, 1, 300, true⟩ : S61), (⟨4, 0, 500, true⟩ : S61)] : List (S61))))
set_option maxHeartbeats 8000000 in
set_option maxRecDepth 100000 in
theorem swarflaw08_till.calls (a0 : Int) (r1 : Int) (r2 : Int) (r3 : Int) (r4 : List (S84)) (r5 : List (S61)) (w : World) (h : swarflaw08_till.f a0 = some (r1, r2, r3, r4, r5)) :
    Calls Try.prog 75 #[.int .i64 a0] w fun e w' => ∃ v3_ v4_ : Value, e = .returned (.agg #[.int .i64 r1, .int .i64 r2, .int .i64 r3, v3_, v4_]) ∧ Kd.R k84 84 w' w.heap.size (fun _ => True) v3_ r4 ∧ Kd.R k61 61 w' w.heap.size (fun _ => True) v4_ r5 ∧ Below w.heap.size w w' := by
  have hu48 := Try.underlying48
  have hu84 := Try.underlying84
  have hu61 := Try.underlying61
  have HB := Aside0.mk (Below.refl w.heap.size w)
  have H : (some (4, a0, 3, (([(⟨0, 1, true⟩ : S84), (⟨1, 2, false⟩ : S84)] : List (S84))), (([(⟨0, 0, 400, true⟩ : S61), (⟨1, 2, 500, true⟩ : S61), (⟨1, 3, 900, false⟩ : S61), (⟨2, 1, 300, true⟩ : S61), (⟨4, 0, 500, true⟩ : S61)] : List (S61))))) = some (r1, r2, r3, r4, r5) := h
  clear h
  obtain ⟨y170, hy170⟩ : ∃ y_ : List (S84), y_ = (([(⟨0, 1, true⟩ : S84), (⟨1, 2, false⟩ : S84)] : List (S84))) := ⟨_, rfl⟩
  replace H : (some (4, a0, 3, y170, (([(⟨0, 0, 400, true⟩ : S61), (⟨1, 2, 500, true⟩ : S61), (⟨1, 3, 900, false⟩ : S61), (⟨2, 1, 300, true⟩ : S61), (⟨4, 0, 500, true⟩ : S61)] : List (S61))))) = some (r1, r2, r3, r4, r5) := by first | (rw [hy170]; with_reducible exact H) | (have H2_ := (Option.bind_some _ _).symm.trans H; rw [hy170]; with_reducible exact H2_) | (have H2_ := (Option.bind_some _ _).symm.trans H; with_reducible exact H2_) | with_reducible exact H | (rw [hy170]; exact H) | exact H
  have Ny170 := Aside0.mk hy170
  clear hy170
  obtain ⟨y173, hy173⟩ : ∃ y_ : List (S61), y_ = (([(⟨0, 0, 400, true⟩ : S61), (⟨1, 2, 500, true⟩ : S61), (⟨1, 3, 900, false⟩ : S61), (⟨2, 1, 300, true⟩ : S61), (⟨4, 0, 500, true⟩ : S61)] : List (S61))) := ⟨_, rfl⟩
  replace H : (some (4, a0, 3, y170, y173)) = some (r1, r2, r3, r4, r5) := by first | (rw [hy173]; with_reducible exact H) | (have H2_ := (Option.bind_some _ _).symm.trans H; rw [hy173]; with_reducible exact H2_) | (have H2_ := (Option.bind_some _ _).symm.trans H; with_reducible exact H2_) | with_reducible exact H | (rw [hy173]; exact H) | exact H
  have Ny173 := Aside0.mk hy173
  clear hy173
  simp only [Option.some.injEq, Prod.mk.injEq] at H
  obtain ⟨rfl, rfl, rfl, rfl, rfl⟩ := H
  go_enter Try.func75, Try.ntmps75
  go_wp2_with (first | ((with_reducible refine gate_dst (N := 2) rfl ?_); refine box_event ?hg (N := 2) ?hd (cs := #[.int .i64 0, .int .i64 0, .int .i64 0, .slice none 0 0, .slice none 0 0]) (t := 48) ?hr ?_; (case hd => rfl); (case hg => rfl); (case hr => first | (go_simp; done) | (go_simp; rfl)); intro gb169 hg w2 hbox hb; have n0_ := Aside0.mk (below_step (by repeat (first | (with_reducible first | exact HB.out | apply below_alloc | apply pw_below_drewN | apply below_drew1) | exact HB.out)) hb); have n1_ := Aside0.mk (hbox); have n2_ := Aside0.mk ((by rw [hg]; exact (below_size (by repeat (first | (with_reducible first | exact HB.out | apply below_alloc | apply pw_below_drewN | apply below_drew1) | exact HB.out))) : w.heap.size ≤ gb169)); have n3_ := Aside0.mk ((by rw [hg]; exact (below_size (by repeat (first | (with_reducible first | exact HB.out | apply below_alloc | apply pw_below_drewN | apply below_drew1) | exact HB.out))) : w.heap.size ≤ gb169)); clear HB; have HB := n0_; have BK169 := n1_; have GW169 := n2_; have GE169 := n3_; clear n0_ n1_ n2_ n3_; clear hb hbox hg) | ((with_reducible refine gate_dst (N := 6) rfl ?_); refine Kd.R_lit k84 _ 84 ?hg (N := 6) ?hd (xs := ([(⟨0, 1, true⟩ : S84), (⟨1, 2, false⟩ : S84)] : List (S84))) (inner := [.int .i64 0, .int .i64 1, .bool true, .int .i64 1, .int .i64 2, .bool false]) (ok := fun _ => True) (okp := fun _ => True) ?hr ?hp (fun _ hk => hk) trivial (Below.refl _ _) (Nat.le_refl _) (by simp) ?_; (case hd => rfl); (case hg => rfl); (case hr => first | (go_simp; done) | (go_simp; rfl)); (case hp => exact (Reps.c3 (show Kd.M k84 _ _ _ (⟨0, 1, true⟩ : S84) [.int .i64 0, .int .i64 1, .bool true] from (k84_mkM _ _ _ (⟨0, 1, true⟩ : S84) )) (Reps.c3 (show Kd.M k84 _ _ _ (⟨1, 2, false⟩ : S84) [.int .i64 1, .int .i64 2, .bool false] from (k84_mkM _ _ _ (⟨1, 2, false⟩ : S84) )) (Reps.none _ _)))); intro v171 w3 ho4 hb hg_ hnew_; clear hg_ hnew_; (first | rw [← Ny170.out] at ho4 | (simp only [Int.reduceToNat] at ho4; rw [← Ny170.out] at ho4)); have n0_ := Aside0.mk (Kd.R_lower ho4 (below_size (by repeat (first | (with_reducible first | exact HB.out | apply below_alloc | apply pw_below_drewN | apply below_drew1 | refine below_set ?_ GE169.out) | exact HB.out)))); have n1_ := Aside0.mk (blk_below (g := gb169) (o := .cells #[.int .i64 0, .int .i64 0, .int .i64 0, .slice none 0 0, .slice none 0 0] 48 (0, 0)) (by (with_reducible repeat (first | refine blk_drewN ?_ _ | refine blk_drew ?_ | refine blk_alloc ?_ _)); exact BK169.out) hb); have n2_ := Aside0.mk (below_step (by repeat (first | (with_reducible first | exact HB.out | apply below_alloc | apply pw_below_drewN | apply below_drew1 | refine below_set ?_ GE169.out) | exact HB.out)) hb); clear BK169; clear HB; have HO172 := n0_; have BK169 := n1_; have HB := n2_; clear n0_ n1_ n2_; clear hb ho4) | ((with_reducible refine gate_dst (N := 12) rfl ?_); refine Kd.R_lit k61 _ 61 ?hg (N := 12) ?hd (xs := ([(⟨0, 0, 400, true⟩ : S61), (⟨1, 2, 500, true⟩ : S61), (⟨1, 3, 900, false⟩ : S61), (⟨2, 1, 300, true⟩ : S61), (⟨4, 0, 500, true⟩ : S61)] : List (S61))) (inner := [.int .i64 0, .int .i64 0, .int .i64 400, .bool true, .int .i64 1, .int .i64 2, .int .i64 500, .bool true, .int .i64 1, .int .i64 3, .int .i64 900, .bool false, .int .i64 2, .int .i64 1, .int .i64 300, .bool true, .int .i64 4, .int .i64 0, .int .i64 500, .bool true]) (ok := fun _ => True) (okp := fun _ => True) ?hr ?hp (fun _ hk => hk) trivial (Below.refl _ _) (Nat.le_refl _) (by simp) ?_; (case hd => rfl); (case hg => rfl); (case hr => first | (go_simp; done) | (go_simp; rfl)); (case hp => exact (Reps.c4 (show Kd.M k61 _ _ _ (⟨0, 0, 400, true⟩ : S61) [.int .i64 0, .int .i64 0, .int .i64 400, .bool true] from (k61_mkM _ _ _ (⟨0, 0, 400, true⟩ : S61) )) (Reps.c4 (show Kd.M k61 _ _ _ (⟨1, 2, 500, true⟩ : S61) [.int .i64 1, .int .i64 2, .int .i64 500, .bool true] from (k61_mkM _ _ _ (⟨1, 2, 500, true⟩ : S61) )) (Reps.c4 (show Kd.M k61 _ _ _ (⟨1, 3, 900, false⟩ : S61) [.int .i64 1, .int .i64 3, .int .i64 900, .bool false] from (k61_mkM _ _ _ (⟨1, 3, 900, false⟩ : S61) )) (Reps.c4 (show Kd.M k61 _ _ _ (⟨2, 1, 300, true⟩ : S61) [.int .i64 2, .int .i64 1, .int .i64 300, .bool true] from (k61_mkM _ _ _ (⟨2, 1, 300, true⟩ : S61) )) (Reps.c4 (show Kd.M k61 _ _ _ (⟨4, 0, 500, true⟩ : S61) [.int .i64 4, .int .i64 0, .int .i64 500, .bool true] from (k61_mkM _ _ _ (⟨4, 0, 500, true⟩ : S61) )) (Reps.none _ _))))))); intro v174 w5 ho6 hb hg_ hnew_; clear hg_ hnew_; (first | rw [← Ny173.out] at ho6 | (simp only [Int.reduceToNat] at ho6; rw [← Ny173.out] at ho6)); have n0_ := Aside0.mk (Kd.R_below (by (with_reducible repeat (first | apply Kd.R_alloc | apply Kd.R_drewN | apply Kd.R_drew)); exact HO172.out) hb); have n1_ := Aside0.mk (Kd.R_lower ho6 (below_size (by repeat (first | (with_reducible first | exact HB.out | apply below_alloc | apply pw_below_drewN | apply below_drew1 | refine below_set ?_ GE169.out) | exact HB.out)))); have n2_ := Aside0.mk (blk_below (g := gb169) (o := .cells #[.int .i64 0, .int .i64 0, .int .i64 0, .slice none 0 0, .slice none 0 0] 48 (0, 0)) (by (with_reducible repeat (first | refine blk_drewN ?_ _ | refine blk_drew ?_ | refine blk_alloc ?_ _)); exact BK169.out) hb); have n3_ := Aside0.mk (below_step (by repeat (first | (with_reducible first | exact HB.out | apply below_alloc | apply pw_below_drewN | apply below_drew1 | refine below_set ?_ GE169.out) | exact HB.out)) hb); clear HO172; clear BK169; clear HB; have HO172 := n0_; have HO175 := n1_; have BK169 := n2_; have HB := n3_; clear n0_ n1_ n2_ n3_; clear hb ho6; obtain ⟨Ao7, co7, eo7⟩ := Kd.R_slice HO175.out; subst eo7; obtain ⟨Ao8, co8, eo8⟩ := Kd.R_slice HO172.out; subst eo8; have hcz9_0 : w5.cell? ⟨gb169, 0, none⟩ = some (.int .i64 0) := (blk_cell BK169.out 0).trans rfl; have hcz9_1 : w5.cell? ⟨gb169, 1, none⟩ = some (.int .i64 0) := (blk_cell BK169.out 1).trans rfl; have hcz9_2 : w5.cell? ⟨gb169, 2, none⟩ = some (.int .i64 0) := (blk_cell BK169.out 2).trans rfl; have hcz9_3 : w5.cell? ⟨gb169, 3, none⟩ = some (.slice none 0 0) := (blk_cell BK169.out 3).trans rfl; have hcz9_4 : w5.cell? ⟨gb169, 4, none⟩ = some (.slice none 0 0) := (blk_cell BK169.out 4).trans rfl; have hfz9_0 := blk_frozen BK169.out 0; have hfz9_1 := blk_frozen BK169.out 1; have hfz9_2 := blk_frozen BK169.out 2; have hfz9_3 := blk_frozen BK169.out 3; have hfz9_4 := blk_frozen BK169.out 4))
  refine bodyPost_ret (results_cell_row rfl _ _ gb169 48 #[.int .i64 4, .int .i64 a0, .int .i64 3, .slice Ao8 y170.length co8, .slice Ao7 y173.length co7] (0, 0) _ rfl (by (with_reducible repeat (first | refine blk_drewN ?_ _ | refine blk_drew ?_ | refine blk_alloc ?_ _)); refine blk_put (cs := #[.int .i64 4, .int .i64 a0, .int .i64 3, .slice Ao8 y170.length co8, .slice none 0 0]) ?_ 4 _ rfl; (with_reducible repeat (first | refine blk_drewN ?_ _ | refine blk_drew ?_ | refine blk_alloc ?_ _)); refine blk_put (cs := #[.int .i64 4, .int .i64 a0, .int .i64 3, .slice none 0 0, .slice none 0 0]) ?_ 3 _ rfl; (with_reducible repeat (first | refine blk_drewN ?_ _ | refine blk_drew ?_ | refine blk_alloc ?_ _)); refine blk_put (cs := #[.int .i64 4, .int .i64 a0, .int .i64 0, .slice none 0 0, .slice none 0 0]) ?_ 2 _ rfl; (with_reducible repeat (first | refine blk_drewN ?_ _ | refine blk_drew ?_ | refine blk_alloc ?_ _)); refine blk_put (cs := #[.int .i64 4, .int .i64 0, .int .i64 0, .slice none 0 0, .slice none 0 0]) ?_ 1 _ rfl; (with_reducible repeat (first | refine blk_drewN ?_ _ | refine blk_drew ?_ | refine blk_alloc ?_ _)); refine blk_put (cs := #[.int .i64 0, .int .i64 0, .int .i64 0, .slice none 0 0, .slice none 0 0]) ?_ 0 _ rfl; (with_reducible repeat (first | refine blk_drewN ?_ _ | refine blk_drew ?_ | refine blk_alloc ?_ _)); exact BK169.out) Try.underlying48 rfl (by kernel_rfl)) rfl ?_
  exact ⟨_, _, by first | rfl | (simp [errW_none, errW_some] <;> rfl) | (simp [*, errW_none, errW_some] <;> rfl), by (with_reducible repeat (first | apply Kd.R_alloc | apply Kd.R_drewN | apply Kd.R_drew)); exact Kd.R_mono (Kd.R_far (p := ⟨gb169, 4, none⟩) (Kd.R_far (p := ⟨gb169, 3, none⟩) (Kd.R_far (p := ⟨gb169, 2, none⟩) (Kd.R_far (p := ⟨gb169, 1, none⟩) (Kd.R_far (p := ⟨gb169, 0, none⟩) (Kd.R_types HO172.out BK169.out (by decide)) (fun _ hk => hk.2) (.int .i64 4)) (fun _ hk => hk.2) (.int .i64 a0)) (fun _ hk => hk.2) (.int .i64 3)) (fun _ hk => hk.2) (.slice Ao8 y170.length co8)) (fun _ hk => hk.2) (.slice Ao7 y173.length co7)) (fun _ hk => trivial), by (with_reducible repeat (first | apply Kd.R_alloc | apply Kd.R_drewN | apply Kd.R_drew)); exact Kd.R_mono (Kd.R_far (p := ⟨gb169, 4, none⟩) (Kd.R_far (p := ⟨gb169, 3, none⟩) (Kd.R_far (p := ⟨gb169, 2, none⟩) (Kd.R_far (p := ⟨gb169, 1, none⟩) (Kd.R_far (p := ⟨gb169, 0, none⟩) (Kd.R_types HO175.out BK169.out (by decide)) (fun _ hk => hk.2) (.int .i64 4)) (fun _ hk => hk.2) (.int .i64 a0)) (fun _ hk => hk.2) (.int .i64 3)) (fun _ hk => hk.2) (.slice Ao8 y170.length co8)) (fun _ hk => hk.2) (.slice Ao7 y173.length co7)) (fun _ hk => trivial), by repeat (first | (with_reducible first | exact HB.out | apply below_alloc | apply pw_below_drewN | apply below_drew1 | refine below_set ?_ GE169.out) | exact HB.out)⟩
def swarflaw08_tags.f  : Option ((List (S77))) := some (([(⟨(⟨#[65, 66, 49, 50]⟩ : ByteArray), 10⟩ : S77), (⟨(⟨#[65, 66, 57, 57]⟩ : ByteArray), 3⟩ : S77), (⟨(⟨#[90, 90]⟩ : ByteArray), 5⟩ : S77)] : List (S77)))
set_option maxHeartbeats 8000000 in
set_option maxRecDepth 100000 in
theorem swarflaw08_tags.calls  (r : List (S77)) (w : World) (h : swarflaw08_tags.f  = some r) :
    Calls Try.prog 76 #[] w fun e w' => ∃ v0_ : Value, e = .returned (v0_) ∧ Kd.R k77 77 w' w.heap.size (fun _ => True) v0_ r ∧ Below w.heap.size w w' := by
  have hu77 := Try.underlying77
  have HB := Aside0.mk (Below.refl w.heap.size w)
  have H : (some (([(⟨(⟨#[65, 66, 49, 50]⟩ : ByteArray), 10⟩ : S77), (⟨(⟨#[65, 66, 57, 57]⟩ : ByteArray), 3⟩ : S77), (⟨(⟨#[90, 90]⟩ : ByteArray), 5⟩ : S77)] : List (S77)))) = some r := h
  clear h
  obtain ⟨y176, hy176⟩ : ∃ y_ : List (S77), y_ = (([(⟨(⟨#[65, 66, 49, 50]⟩ : ByteArray), 10⟩ : S77), (⟨(⟨#[65, 66, 57, 57]⟩ : ByteArray), 3⟩ : S77), (⟨(⟨#[90, 90]⟩ : ByteArray), 5⟩ : S77)] : List (S77))) := ⟨_, rfl⟩
  replace H : (some y176) = some r := by first | (rw [hy176]; with_reducible exact H) | (have H2_ := (Option.bind_some _ _).symm.trans H; rw [hy176]; with_reducible exact H2_) | (have H2_ := (Option.bind_some _ _).symm.trans H; with_reducible exact H2_) | with_reducible exact H | (rw [hy176]; exact H) | exact H
  have Ny176 := Aside0.mk hy176
  clear hy176
  obtain rfl := Option.some.inj H
  go_enter Try.func76, Try.ntmps76
  go_wp2_with (first | ((with_reducible refine gate_dst (N := 4) rfl ?_); refine Kd.R_lit k77 _ 77 ?hg (N := 4) ?hd (xs := ([(⟨(⟨#[65, 66, 49, 50]⟩ : ByteArray), 10⟩ : S77), (⟨(⟨#[65, 66, 57, 57]⟩ : ByteArray), 3⟩ : S77), (⟨(⟨#[90, 90]⟩ : ByteArray), 5⟩ : S77)] : List (S77))) (inner := [.string (⟨#[65, 66, 49, 50]⟩ : ByteArray), .int .i64 10, .string (⟨#[65, 66, 57, 57]⟩ : ByteArray), .int .i64 3, .string (⟨#[90, 90]⟩ : ByteArray), .int .i64 5]) (ok := fun _ => True) (okp := fun _ => True) ?hr ?hp (fun _ hk => hk) trivial (Below.refl _ _) (Nat.le_refl _) (by simp) ?_; (case hd => rfl); (case hg => rfl); (case hr => first | (go_simp; done) | (go_simp; rfl)); (case hp => exact (Reps.c2 (show Kd.M k77 _ _ _ (⟨(⟨#[65, 66, 49, 50]⟩ : ByteArray), 10⟩ : S77) [.string (⟨#[65, 66, 49, 50]⟩ : ByteArray), .int .i64 10] from (k77_mkM _ _ _ (⟨(⟨#[65, 66, 49, 50]⟩ : ByteArray), 10⟩ : S77) )) (Reps.c2 (show Kd.M k77 _ _ _ (⟨(⟨#[65, 66, 57, 57]⟩ : ByteArray), 3⟩ : S77) [.string (⟨#[65, 66, 57, 57]⟩ : ByteArray), .int .i64 3] from (k77_mkM _ _ _ (⟨(⟨#[65, 66, 57, 57]⟩ : ByteArray), 3⟩ : S77) )) (Reps.c2 (show Kd.M k77 _ _ _ (⟨(⟨#[90, 90]⟩ : ByteArray), 5⟩ : S77) [.string (⟨#[90, 90]⟩ : ByteArray), .int .i64 5] from (k77_mkM _ _ _ (⟨(⟨#[90, 90]⟩ : ByteArray), 5⟩ : S77) )) (Reps.none _ _))))); intro v177 w1 ho2 hb hg_ hnew_; clear hg_ hnew_; (first | rw [← Ny176.out] at ho2 | (simp only [Int.reduceToNat] at ho2; rw [← Ny176.out] at ho2)); have n0_ := Aside0.mk (Kd.R_lower ho2 (below_size (by repeat (first | (with_reducible first | exact HB.out | apply below_alloc | apply pw_below_drewN | apply below_drew1) | exact HB.out)))); have n1_ := Aside0.mk (below_step (by repeat (first | (with_reducible first | exact HB.out | apply below_alloc | apply pw_below_drewN | apply below_drew1) | exact HB.out)) hb); clear HB; have HO178 := n0_; have HB := n1_; clear n0_ n1_; clear hb ho2))
  go_ret
  exact ⟨_, by first | rfl | (simp [errW_none, errW_some] <;> rfl) | (simp [*, errW_none, errW_some] <;> rfl), by (with_reducible repeat (first | apply Kd.R_alloc | apply Kd.R_drewN | apply Kd.R_drew)); exact HO178.out, by repeat (first | (with_reducible first | exact HB.out | apply below_alloc | apply pw_below_drewN | apply below_drew1) | exact HB.out)⟩
def swarflaw08_hedge.f (a0 : Int) : Option ((List (S24)) × Int × Int × Int) := (swarflaw08_to.f 90 110).bind fun bt180 => ((swarflaw08_to.f 140 160).bind fun bt182 => ((swarflaw08_to.f 100 120).bind fun bt184 => (some ((([(⟨bt180.1, bt180.2⟩ : S24), (⟨bt182.1, bt182.2⟩ : S24), (⟨bt184.1, bt184.2⟩ : S24)] : List (S24))), 25, a0, 4))))
set_option maxHeartbeats 8000000 in
set_option maxRecDepth 100000 in
theorem swarflaw08_hedge.calls (a0 : Int) (r1 : List (S24)) (r2 : Int) (r3 : Int) (r4 : Int) (w : World) (h : swarflaw08_hedge.f a0 = some (r1, r2, r3, r4)) :
    Calls Try.prog 77 #[.int .i64 a0] w fun e w' => ∃ v0_ : Value, e = .returned (.agg #[v0_, .int .i64 r2, .int .i64 r3, .int .i64 r4]) ∧ Kd.R k24 24 w' w.heap.size (fun _ => True) v0_ r1 ∧ Below w.heap.size w w' := by
  have hu87 := Try.underlying87
  have HB := Aside0.mk (Below.refl w.heap.size w)
  have H : ((swarflaw08_to.f 90 110).bind fun bt180 => ((swarflaw08_to.f 140 160).bind fun bt182 => ((swarflaw08_to.f 100 120).bind fun bt184 => (some ((([(⟨bt180.1, bt180.2⟩ : S24), (⟨bt182.1, bt182.2⟩ : S24), (⟨bt184.1, bt184.2⟩ : S24)] : List (S24))), 25, a0, 4))))) = some (r1, r2, r3, r4) := h
  clear h
  replace H := Option.bind_eq_some_iff.mp H
  obtain ⟨⟨t180, t181⟩, A20, H⟩ := H
  replace H : ((swarflaw08_to.f 140 160).bind fun bt182 => ((swarflaw08_to.f 100 120).bind fun bt184 => (some ((([(⟨t180, t181⟩ : S24), (⟨bt182.1, bt182.2⟩ : S24), (⟨bt184.1, bt184.2⟩ : S24)] : List (S24))), 25, a0, 4)))) = some (r1, r2, r3, r4) := H
  have A2 := Aside0.mk A20
  clear A20
  replace H := Option.bind_eq_some_iff.mp H
  obtain ⟨⟨t182, t183⟩, A30, H⟩ := H
  replace H : ((swarflaw08_to.f 100 120).bind fun bt184 => (some ((([(⟨t180, t181⟩ : S24), (⟨t182, t183⟩ : S24), (⟨bt184.1, bt184.2⟩ : S24)] : List (S24))), 25, a0, 4))) = some (r1, r2, r3, r4) := H
  have A3 := Aside0.mk A30
  clear A30
  replace H := Option.bind_eq_some_iff.mp H
  obtain ⟨⟨t184, t185⟩, A40, H⟩ := H
  replace H : (some ((([(⟨t180, t181⟩ : S24), (⟨t182, t183⟩ : S24), (⟨t184, t185⟩ : S24)] : List (S24))), 25, a0, 4)) = some (r1, r2, r3, r4) := H
  have A4 := Aside0.mk A40
  clear A40
  obtain ⟨y186, hy186⟩ : ∃ y_ : List (S24), y_ = (([(⟨t180, t181⟩ : S24), (⟨t182, t183⟩ : S24), (⟨t184, t185⟩ : S24)] : List (S24))) := ⟨_, rfl⟩
  replace H : (some (y186, 25, a0, 4)) = some (r1, r2, r3, r4) := by first | (rw [hy186]; with_reducible exact H) | (have H2_ := (Option.bind_some _ _).symm.trans H; rw [hy186]; with_reducible exact H2_) | (have H2_ := (Option.bind_some _ _).symm.trans H; with_reducible exact H2_) | with_reducible exact H | (rw [hy186]; exact H) | exact H
  have Ny186 := Aside0.mk hy186
  clear hy186
  simp only [Option.some.injEq, Prod.mk.injEq] at H
  obtain ⟨rfl, rfl, rfl, rfl⟩ := H
  go_enter Try.func77, Try.ntmps77
  go_wp2_with (first | ((with_reducible refine gate_dst (N := 2) rfl ?_); refine box_event ?hg (N := 2) ?hd (cs := #[.slice none 0 0, .int .i64 0, .int .i64 0, .int .i64 0]) (t := 87) ?hr ?_; (case hd => rfl); (case hg => rfl); (case hr => first | (go_simp; done) | (go_simp; rfl)); intro gb179 hg w5 hbox hb; have n0_ := Aside0.mk (below_step (by repeat (first | (with_reducible first | exact HB.out | apply below_alloc | apply pw_below_drewN | apply below_drew1) | exact HB.out)) hb); have n1_ := Aside0.mk (hbox); have n2_ := Aside0.mk ((by rw [hg]; exact (below_size (by repeat (first | (with_reducible first | exact HB.out | apply below_alloc | apply pw_below_drewN | apply below_drew1) | exact HB.out))) : w.heap.size ≤ gb179)); have n3_ := Aside0.mk ((by rw [hg]; exact (below_size (by repeat (first | (with_reducible first | exact HB.out | apply below_alloc | apply pw_below_drewN | apply below_drew1) | exact HB.out))) : w.heap.size ≤ gb179)); clear HB; have HB := n0_; have BK179 := n1_; have GW179 := n2_; have GE179 := n3_; clear n0_ n1_ n2_ n3_; clear hb hbox hg) | ((with_reducible refine gate_callee (f := 27) rfl ?_); refine goesL_ (some 3) rfl rfl Try.func27 (by kernel_rfl) rfl #[.int .i64 90, .int .i64 110] rfl (by (try simp only [List.map_toArray, List.map_cons, List.map_nil]); first | done | rfl | (simp only [List.length_drop, List.length_take]; rfl)) ?_; (with_reducible refine (swarflaw08_to.calls 90 110 t180 t181 _ A2.out).mono ?_); rintro e w6 ⟨rfl, hb⟩; refine ⟨_, rfl, ?_⟩; have n0_ := Aside0.mk (blk_below (g := gb179) (o := .cells #[.slice none 0 0, .int .i64 0, .int .i64 0, .int .i64 0] 87 (0, 0)) (by (with_reducible repeat (first | refine blk_drewN ?_ _ | refine blk_drew ?_ | refine blk_alloc ?_ _)); exact BK179.out) hb); have n1_ := Aside0.mk (below_step (by repeat (first | (with_reducible first | exact HB.out | apply below_alloc | apply pw_below_drewN | apply below_drew1 | refine below_set ?_ GE179.out) | exact HB.out)) hb); clear BK179; clear HB; have BK179 := n0_; have HB := n1_; clear n0_ n1_; (try clear hb); (try clear hb2); (try clear hk); (try clear hi)) | ((with_reducible refine gate_callee (f := 27) rfl ?_); refine goesL_ (some 4) rfl rfl Try.func27 (by kernel_rfl) rfl #[.int .i64 140, .int .i64 160] rfl (by (try simp only [List.map_toArray, List.map_cons, List.map_nil]); first | done | rfl | (simp only [List.length_drop, List.length_take]; rfl)) ?_; (with_reducible refine (swarflaw08_to.calls 140 160 t182 t183 _ A3.out).mono ?_); rintro e w7 ⟨rfl, hb⟩; refine ⟨_, rfl, ?_⟩; have n0_ := Aside0.mk (blk_below (g := gb179) (o := .cells #[.slice none 0 0, .int .i64 0, .int .i64 0, .int .i64 0] 87 (0, 0)) (by (with_reducible repeat (first | refine blk_drewN ?_ _ | refine blk_drew ?_ | refine blk_alloc ?_ _)); exact BK179.out) hb); have n1_ := Aside0.mk (below_step (by repeat (first | (with_reducible first | exact HB.out | apply below_alloc | apply pw_below_drewN | apply below_drew1 | refine below_set ?_ GE179.out) | exact HB.out)) hb); clear BK179; clear HB; have BK179 := n0_; have HB := n1_; clear n0_ n1_; (try clear hb); (try clear hb2); (try clear hk); (try clear hi)) | ((with_reducible refine gate_callee (f := 27) rfl ?_); refine goesL_ (some 5) rfl rfl Try.func27 (by kernel_rfl) rfl #[.int .i64 100, .int .i64 120] rfl (by (try simp only [List.map_toArray, List.map_cons, List.map_nil]); first | done | rfl | (simp only [List.length_drop, List.length_take]; rfl)) ?_; (with_reducible refine (swarflaw08_to.calls 100 120 t184 t185 _ A4.out).mono ?_); rintro e w8 ⟨rfl, hb⟩; refine ⟨_, rfl, ?_⟩; have n0_ := Aside0.mk (blk_below (g := gb179) (o := .cells #[.slice none 0 0, .int .i64 0, .int .i64 0, .int .i64 0] 87 (0, 0)) (by (with_reducible repeat (first | refine blk_drewN ?_ _ | refine blk_drew ?_ | refine blk_alloc ?_ _)); exact BK179.out) hb); have n1_ := Aside0.mk (below_step (by repeat (first | (with_reducible first | exact HB.out | apply below_alloc | apply pw_below_drewN | apply below_drew1 | refine below_set ?_ GE179.out) | exact HB.out)) hb); clear BK179; clear HB; have BK179 := n0_; have HB := n1_; clear n0_ n1_; (try clear hb); (try clear hb2); (try clear hk); (try clear hi)) | ((with_reducible refine gate_dst (N := 6) rfl ?_); refine Kd.R_lit k24 _ 24 ?hg (N := 6) ?hd (xs := ([(⟨t180, t181⟩ : S24), (⟨t182, t183⟩ : S24), (⟨t184, t185⟩ : S24)] : List (S24))) (inner := [.int .i64 t180, .int .i64 t181, .int .i64 t182, .int .i64 t183, .int .i64 t184, .int .i64 t185]) (ok := fun _ => True) (okp := fun _ => True) ?hr ?hp (fun _ hk => hk) trivial (Below.refl _ _) (Nat.le_refl _) (by simp) ?_; (case hd => rfl); (case hg => rfl); (case hr => first | (go_simp; done) | (go_simp; rfl)); (case hp => exact (Reps.c2 (show Kd.M k24 _ _ _ (⟨t180, t181⟩ : S24) [.int .i64 t180, .int .i64 t181] from (k24_mkM _ _ _ (⟨t180, t181⟩ : S24) )) (Reps.c2 (show Kd.M k24 _ _ _ (⟨t182, t183⟩ : S24) [.int .i64 t182, .int .i64 t183] from (k24_mkM _ _ _ (⟨t182, t183⟩ : S24) )) (Reps.c2 (show Kd.M k24 _ _ _ (⟨t184, t185⟩ : S24) [.int .i64 t184, .int .i64 t185] from (k24_mkM _ _ _ (⟨t184, t185⟩ : S24) )) (Reps.none _ _))))); intro v187 w9 ho10 hb hg_ hnew_; clear hg_ hnew_; (first | rw [← Ny186.out] at ho10 | (simp only [Int.reduceToNat] at ho10; rw [← Ny186.out] at ho10)); have n0_ := Aside0.mk (Kd.R_lower ho10 (below_size (by repeat (first | (with_reducible first | exact HB.out | apply below_alloc | apply pw_below_drewN | apply below_drew1 | refine below_set ?_ GE179.out) | exact HB.out)))); have n1_ := Aside0.mk (blk_below (g := gb179) (o := .cells #[.slice none 0 0, .int .i64 0, .int .i64 0, .int .i64 0] 87 (0, 0)) (by (with_reducible repeat (first | refine blk_drewN ?_ _ | refine blk_drew ?_ | refine blk_alloc ?_ _)); exact BK179.out) hb); have n2_ := Aside0.mk (below_step (by repeat (first | (with_reducible first | exact HB.out | apply below_alloc | apply pw_below_drewN | apply below_drew1 | refine below_set ?_ GE179.out) | exact HB.out)) hb); clear BK179; clear HB; have HO188 := n0_; have BK179 := n1_; have HB := n2_; clear n0_ n1_ n2_; clear hb ho10; obtain ⟨Ao11, co11, eo11⟩ := Kd.R_slice HO188.out; subst eo11; have hcz12_0 : w9.cell? ⟨gb179, 0, none⟩ = some (.slice none 0 0) := (blk_cell BK179.out 0).trans rfl; have hcz12_1 : w9.cell? ⟨gb179, 1, none⟩ = some (.int .i64 0) := (blk_cell BK179.out 1).trans rfl; have hcz12_2 : w9.cell? ⟨gb179, 2, none⟩ = some (.int .i64 0) := (blk_cell BK179.out 2).trans rfl; have hcz12_3 : w9.cell? ⟨gb179, 3, none⟩ = some (.int .i64 0) := (blk_cell BK179.out 3).trans rfl; have hfz12_0 := blk_frozen BK179.out 0; have hfz12_1 := blk_frozen BK179.out 1; have hfz12_2 := blk_frozen BK179.out 2; have hfz12_3 := blk_frozen BK179.out 3))
  refine bodyPost_ret (results_cell_row rfl _ _ gb179 87 #[.slice Ao11 y186.length co11, .int .i64 25, .int .i64 a0, .int .i64 4] (0, 0) _ rfl (by (with_reducible repeat (first | refine blk_drewN ?_ _ | refine blk_drew ?_ | refine blk_alloc ?_ _)); refine blk_put (cs := #[.slice Ao11 y186.length co11, .int .i64 25, .int .i64 a0, .int .i64 0]) ?_ 3 _ rfl; (with_reducible repeat (first | refine blk_drewN ?_ _ | refine blk_drew ?_ | refine blk_alloc ?_ _)); refine blk_put (cs := #[.slice Ao11 y186.length co11, .int .i64 25, .int .i64 0, .int .i64 0]) ?_ 2 _ rfl; (with_reducible repeat (first | refine blk_drewN ?_ _ | refine blk_drew ?_ | refine blk_alloc ?_ _)); refine blk_put (cs := #[.slice Ao11 y186.length co11, .int .i64 0, .int .i64 0, .int .i64 0]) ?_ 1 _ rfl; (with_reducible repeat (first | refine blk_drewN ?_ _ | refine blk_drew ?_ | refine blk_alloc ?_ _)); refine blk_put (cs := #[.slice none 0 0, .int .i64 0, .int .i64 0, .int .i64 0]) ?_ 0 _ rfl; (with_reducible repeat (first | refine blk_drewN ?_ _ | refine blk_drew ?_ | refine blk_alloc ?_ _)); exact BK179.out) Try.underlying87 rfl (by kernel_rfl)) rfl ?_
  exact ⟨_, by first | rfl | (simp [errW_none, errW_some] <;> rfl) | (simp [*, errW_none, errW_some] <;> rfl), by (with_reducible repeat (first | apply Kd.R_alloc | apply Kd.R_drewN | apply Kd.R_drew)); exact Kd.R_mono (Kd.R_far (p := ⟨gb179, 3, none⟩) (Kd.R_far (p := ⟨gb179, 2, none⟩) (Kd.R_far (p := ⟨gb179, 1, none⟩) (Kd.R_far (p := ⟨gb179, 0, none⟩) (Kd.R_types HO188.out BK179.out (by decide)) (fun _ hk => hk.2) (.slice Ao11 y186.length co11)) (fun _ hk => hk.2) (.int .i64 25)) (fun _ hk => hk.2) (.int .i64 a0)) (fun _ hk => hk.2) (.int .i64 4)) (fun _ hk => trivial), by repeat (first | (with_reducible first | exact HB.out | apply below_alloc | apply pw_below_drewN | apply below_drew1 | refine below_set ?_ GE179.out) | exact HB.out)⟩
def swarflaw08_fixes.f  : Option ((List (S26))) := some (([(⟨10, 200000⟩ : S26), (⟨12, 210000⟩ : S26)] : List (S26)))
set_option maxHeartbeats 8000000 in
set_option maxRecDepth 100000 in
theorem swarflaw08_fixes.calls  (r : List (S26)) (w : World) (h : swarflaw08_fixes.f  = some r) :
    Calls Try.prog 78 #[] w fun e w' => ∃ v0_ : Value, e = .returned (v0_) ∧ Kd.R k26 26 w' w.heap.size (fun _ => True) v0_ r ∧ Below w.heap.size w w' := by
  have hu26 := Try.underlying26
  have HB := Aside0.mk (Below.refl w.heap.size w)
  have H : (some (([(⟨10, 200000⟩ : S26), (⟨12, 210000⟩ : S26)] : List (S26)))) = some r := h
  clear h
  obtain ⟨y189, hy189⟩ : ∃ y_ : List (S26), y_ = (([(⟨10, 200000⟩ : S26), (⟨12, 210000⟩ : S26)] : List (S26))) := ⟨_, rfl⟩
  replace H : (some y189) = some r := by first | (rw [hy189]; with_reducible exact H) | (have H2_ := (Option.bind_some _ _).symm.trans H; rw [hy189]; with_reducible exact H2_) | (have H2_ := (Option.bind_some _ _).symm.trans H; with_reducible exact H2_) | with_reducible exact H | (rw [hy189]; exact H) | exact H
  have Ny189 := Aside0.mk hy189
  clear hy189
  obtain rfl := Option.some.inj H
  go_enter Try.func78, Try.ntmps78
  go_wp2_with (first | ((with_reducible refine gate_dst (N := 3) rfl ?_); refine Kd.R_lit k26 _ 26 ?hg (N := 3) ?hd (xs := ([(⟨10, 200000⟩ : S26), (⟨12, 210000⟩ : S26)] : List (S26))) (inner := [.int .i64 10, .int .i64 200000, .int .i64 12, .int .i64 210000]) (ok := fun _ => True) (okp := fun _ => True) ?hr ?hp (fun _ hk => hk) trivial (Below.refl _ _) (Nat.le_refl _) (by simp) ?_; (case hd => rfl); (case hg => rfl); (case hr => first | (go_simp; done) | (go_simp; rfl)); (case hp => exact (Reps.c2 (show Kd.M k26 _ _ _ (⟨10, 200000⟩ : S26) [.int .i64 10, .int .i64 200000] from (k26_mkM _ _ _ (⟨10, 200000⟩ : S26) )) (Reps.c2 (show Kd.M k26 _ _ _ (⟨12, 210000⟩ : S26) [.int .i64 12, .int .i64 210000] from (k26_mkM _ _ _ (⟨12, 210000⟩ : S26) )) (Reps.none _ _)))); intro v190 w1 ho2 hb hg_ hnew_; clear hg_ hnew_; (first | rw [← Ny189.out] at ho2 | (simp only [Int.reduceToNat] at ho2; rw [← Ny189.out] at ho2)); have n0_ := Aside0.mk (Kd.R_lower ho2 (below_size (by repeat (first | (with_reducible first | exact HB.out | apply below_alloc | apply pw_below_drewN | apply below_drew1) | exact HB.out)))); have n1_ := Aside0.mk (below_step (by repeat (first | (with_reducible first | exact HB.out | apply below_alloc | apply pw_below_drewN | apply below_drew1) | exact HB.out)) hb); clear HB; have HO191 := n0_; have HB := n1_; clear n0_ n1_; clear hb ho2))
  go_ret
  exact ⟨_, by first | rfl | (simp [errW_none, errW_some] <;> rfl) | (simp [*, errW_none, errW_some] <;> rfl), by (with_reducible repeat (first | apply Kd.R_alloc | apply Kd.R_drewN | apply Kd.R_drew)); exact HO191.out, by repeat (first | (with_reducible first | exact HB.out | apply below_alloc | apply pw_below_drewN | apply below_drew1) | exact HB.out)⟩
end Go.Proofs.Ytkdlbocjgbmbdaa.Print
