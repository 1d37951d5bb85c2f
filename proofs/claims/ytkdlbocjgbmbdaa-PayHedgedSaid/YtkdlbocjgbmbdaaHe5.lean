import Derived.Test.YtkdlbocjgbmbdaaHe4
set_option linter.unusedVariables false
set_option linter.unusedSimpArgs false
namespace Go.Proofs.Ytkdlbocjgbmbdaa.Print
open Go.RowKit Go.Shelf Go.Proofs.YtkdlbocjgbmbdaaW.PrintWords
def exLinks : List S84 := [(⟨0, 1, true⟩ : S84), (⟨1, 2, false⟩ : S84)]
def exDues : List S61 := [(⟨0, 0, 400, true⟩ : S61), (⟨1, 2, 500, true⟩ : S61), (⟨1, 3, 900, false⟩ : S61), (⟨2, 1, 300, true⟩ : S61), (⟨4, 0, 500, true⟩ : S61)]
theorem ex_lawful : lawfulR 4 1000 3 exLinks exDues = (3, 0) := by decide +kernel
theorem ex_soon : soonR 4 1500 3 exLinks exDues 0 4 2000 = (7, 0) := by decide +kernel
def exTags : List S77 := [(⟨(⟨#[65, 66, 49, 50]⟩ : ByteArray), 10⟩ : S77), (⟨(⟨#[65, 66, 57, 57]⟩ : ByteArray), 3⟩ : S77), (⟨(⟨#[90, 90]⟩ : ByteArray), 5⟩ : S77)]
theorem ex_match : matchR exTags [(⟨#[65, 66, 63, 63]⟩ : ByteArray), (⟨#[63, 63, 57, 63]⟩ : ByteArray)] = (3, [1], 0) := by decide +kernel
section
variable {st : List S24} {lot bound : Int}
theorem costG_congr {d : Nat} {f g : Nat → Int} {b l : Nat} (h : f l = g l) : costG st lot bound d f b l = costG st lot bound d g b l := by unfold costG; rw [h]
theorem bestF_congr {d : Nat} {f g : Nat → Int} {b : Nat} : ∀ k, (∀ l, l < k → f l = g l) → bestF st lot bound d f b k = bestF st lot bound d g b k
  | 0, _ => rfl
  | k + 1, h => by simp only [bestF]; rw [bestF_congr k (fun l hl => h l (by omega)), costG_congr (h k (by omega))]
theorem firstI_congr {f g : Nat → Bool} : ∀ n, (∀ j, j < n → f j = g j) → firstI f n = firstI g n
  | 0, _ => rfl
  | n + 1, h => by simp only [firstI]; rw [firstI_congr n (fun j hj => h j (by omega)), h n (by omega)]
def rowL (st : List S24) (lot bound : Int) (d : Nat) (next : List Int) : List Int := (List.range 51).map fun b => bestF st lot bound d (fun l => next.getD l 0) b 51
theorem restF_row {m d : Nat} {L L' : List Int} (hL : ∀ l, l < 51 → restF st lot bound m l = L.getD l 0) (hd : st.length - (m + 1) = d) (h : rowL st lot bound d L = L') : ∀ l, l < 51 → restF st lot bound (m + 1) l = L'.getD l 0 := by
  intro l hl
  rw [← h]
  simp only [restF, rowL]
  rw [hd, bestF_congr 51 hL, List.getD_eq_getElem?_getD, List.getElem?_map, List.getElem?_range hl]
  rfl
theorem lotsF_eq {d b n v : Nat} {w : Int} {L L' : List Int} (hL : ∀ l, l < 51 → restF st lot bound (st.length - (d + 1)) l = L.getD l 0) (hL' : restF st lot bound (st.length - d) b = w) (h : (firstI (fun l => decide (costG st lot bound d (fun l => L.getD l 0) b l = w)) 51).toNat = n) : lotsF st lot bound d b = n := by
  unfold lotsF
  rw [hL']
  refine (congrArg Int.toNat (firstI_congr 51 ?_)).trans h
  exact fun l hl => by rw [costG_congr (g := fun l => L.getD l 0) (hL l hl)]
end
def exStock : List S24 := [(⟨90, 110⟩ : S24), (⟨140, 160⟩ : S24), (⟨100, 120⟩ : S24)]
def exRow1 : List Int := [4, 3, 2, 1, 0, 0, 1, 2, 3, 4, 5, 6, 7, 8, 9, 10, 11, 12, 13, 14, 15, 16, 17, 18, 19, 20, 21, 22, 23, 24, 25, 26, 27, 28, 29, 30, 31, 32, 33, 34, 35, 36, 37, 38, 39, 40, 41, 42, 43, 44, 45]
def exRow2 : List Int := [7, 6, 5, 4, 3, 2, 1, 2, 3, 4, 5, 6, 7, 8, 9, 10, 11, 12, 13, 14, 15, 16, 17, 18, 19, 20, 21, 22, 23, 24, 25, 26, 27, 28, 29, 30, 31, 32, 33, 34, 35, 36, 37, 38, 39, 40, 41, 42, 43, 44, 45]
def exRow3 : List Int := [7, 6, 5, 4, 3, 4, 5, 6, 7, 8, 9, 10, 11, 12, 13, 14, 15, 16, 17, 18, 19, 20, 21, 22, 23, 24, 25, 26, 27, 28, 29, 30, 31, 32, 33, 34, 35, 36, 37, 38, 39, 40, 41, 42, 43, 44, 45, 46, 47, 48, 49]
theorem ex_r0 : ∀ l, l < 51 → restF exStock 25 30 0 l = (List.replicate 51 (0 : Int)).getD l 0 := fun l hl => by
  rw [List.getD_eq_getElem?_getD, List.getElem?_replicate, if_pos hl]; rfl
theorem ex_r1 : ∀ l, l < 51 → restF exStock 25 30 1 l = exRow1.getD l 0 := restF_row (d := 2) ex_r0 rfl (by decide +kernel)
theorem ex_r2 : ∀ l, l < 51 → restF exStock 25 30 2 l = exRow2.getD l 0 := restF_row (d := 1) ex_r1 rfl (by decide +kernel)
theorem ex_r3 : ∀ l, l < 51 → restF exStock 25 30 3 l = exRow3.getD l 0 := restF_row (d := 0) ex_r2 rfl (by decide +kernel)
theorem ex_l0 : lotsF exStock 25 30 0 4 = 4 := lotsF_eq (L := exRow2) (L' := []) (v := 0) (w := 3) ex_r2 (by show restF exStock 25 30 3 4 = 3; rw [ex_r3 4 (by omega)]; decide) (by decide +kernel)
theorem ex_l1 : lotsF exStock 25 30 1 4 = 6 := lotsF_eq (L := exRow1) (L' := []) (v := 0) (w := 3) ex_r1 (by show restF exStock 25 30 2 4 = 3; rw [ex_r2 4 (by omega)]; decide) (by decide +kernel)
theorem ex_l2 : lotsF exStock 25 30 2 6 = 5 := lotsF_eq (L := List.replicate 51 0) (L' := []) (v := 0) (w := 1) ex_r0 (by show restF exStock 25 30 1 6 = 1; rw [ex_r1 6 (by omega)]; decide) (by decide +kernel)
theorem ex_hedged : hedgedR exStock 25 30 4 = ([4, 6, 5], 3, 0) := by
  have h0 : hedgeE exStock 25 30 4 = 0 := by decide +kernel
  have h1 : restF exStock 25 30 3 4 = 3 := by rw [ex_r3 4 (by omega)]; decide
  have hp : (planK exStock 25 30 4 3).1 = [4, 6, 5] := by
    simp only [planK, ex_l0, ex_l1, ex_l2]; rfl
  unfold hedgedR
  rw [h0]
  show (if (0 : Int) ≠ 0 then _ else if never ≤ restF exStock 25 30 3 4 then _ else ((planK exStock 25 30 4 3).1, restF exStock 25 30 3 4, 0)) = _
  rw [h1, hp, if_neg (by omega), if_neg (by unfold never; omega)]
section
open Go.Proofs.YtkdlbocjgbmbdaaW.PrintLast Go.Proofs.YtkdlbocjgbmbdaaW.PrintMore
attribute [local go_sem] max2_int min2_int max_two min_two max_three min_three max_four min_four
attribute [local go_sem high] eqA24
def swarflaw08_awake0.f (k : Nat)  : Option (Bool) := (swarflaw08_till.f 1000).bind fun bt192 => ((pay_Lawful.f bt192.1 bt192.2.1 bt192.2.2.1 bt192.2.2.2.1 bt192.2.2.2.2).bind fun bt201 => ((swarflaw08_till.f 1500).bind fun bt203 => ((pay_Soonest.f bt203.1 bt203.2.1 bt203.2.2.1 bt203.2.2.2.1 bt203.2.2.2.2 0 4 2000).bind fun bt212 => ((swarflaw08_tags.f).bind fun t214 => ((pay_Match.f k t214 (([(⟨#[65, 66, 63, 63]⟩ : ByteArray), (⟨#[63, 63, 57, 63]⟩ : ByteArray)] : List ByteArray))).bind fun bt220 => ((swarflaw08_hedge.f 30).bind fun bt225 => ((pay_Hedged.f bt225.1 bt225.2.1 bt225.2.2.1 bt225.2.2.2).bind fun bt231 => ((swarflaw08_fixes.f).bind fun t236 => ((swarflaw08_to.f 1000 1500).bind fun bt239 => ((pay_Value.f k t236 12 bt239.1 bt239.2 900).bind fun bt241 => (if bt201.2 = 0 then (if bt212.2 = 0 then (if bt220.2.2 = 0 then (if bt231.2.2 = 0 then (if bt241.2.2 = 0 then (if bt201.1 = 3 then (if bt212.1 = 7 then (if bt220.1 = 3 then (if bt231.2.1 = 3 then ((swarfkit_EqualInts.f k bt220.2.1 (([1] : List Int))).bind fun t248 => (if t248 = true then ((swarfkit_EqualInts.f k bt231.1 (([4, 6, 5] : List Int))).bind fun t252 => (if t252 = true then ((swarflaw08_to.f 189000 283500).bind fun bt253 => (some (bt241.1 == bt253.1 && (bt241.2.1 == bt253.2)))) else (some false))) else (some false))) else (some false)) else (some false)) else (some false)) else (some false)) else (some false)) else (some false)) else (some false)) else (some false)) else (some false))))))))))))
theorem swarflaw08_awake0.mono : ∀ k, LeO (swarflaw08_awake0.f k ) (swarflaw08_awake0.f (k + 1) ) := by
  intro  k
  unfold swarflaw08_awake0.f
  repeat' first
      | (with_reducible exact pay_Match.mono _ _ _)
      | (with_reducible exact pay_Value.mono _ _ _ _ _ _)
      | (with_reducible exact swarfkit_EqualInts.mono _ _ _)
      | (with_reducible exact LeO.refl _)
      | (with_reducible exact LeO.none _)
      | (with_reducible refine LeO.ite ?_ ?_)
      | (with_reducible refine LeO.bind ?_ (fun _ => ?_))
      | exact pay_Match.mono _ _ _
      | exact pay_Value.mono _ _ _ _ _ _
      | exact swarfkit_EqualInts.mono _ _ _
      | exact LeO.none _
      | refine LeO.ite ?_ ?_
      | refine LeO.bind ?_ (fun _ => ?_)
def swarflaw08_awake.T6 : Bool × List (List Nat × List Nat) := (true, [([], []), ([0], [0]), ([1], [1]), ([2], [2]), ([3, 2], [2, 3]), ([2, 4], [2, 4]), ([5, 2], [5]), ([6], [6]), ([7, 6], [6, 7]), ([6, 8], [6, 8]), ([9, 6], [9]), ([10], [10]), ([11, 10], [10, 11]), ([10, 12], [10, 12]), ([13, 10], [13]), ([14], [14]), ([15, 14], [14, 15]), ([14, 16], [14, 16]), ([17, 14], [17]), ([18], [18]), ([19, 18], [18, 19]), ([18, 20], [18, 20]), ([21, 18], [21]), ([22], [22]), ([23, 22], [22, 23]), ([22, 24], [22, 24]), ([25, 22], [25]), ([26], [26]), ([27, 26], [26, 27]), ([26, 28], [26, 28]), ([29, 26], [29]), ([30], [30]), ([31, 30], [30, 31]), ([30, 32], [30, 32]), ([33, 30], [33]), ([34], [34]), ([34], [34]), ([35, 36, 34, 34], [34, 35, 36]), ([34, 37], [34, 37]), ([38, 37], [38]), ([39], [39]), ([39], [39]), ([40, 41, 39, 39], [39, 40, 41]), ([39, 42], [39, 42]), ([43, 42], [43]), ([44], [44]), ([44, 44], [44]), ([45, 46, 44], [44, 45, 46]), ([44, 47], [44, 47]), ([48, 46, 0, 1, 2, 3, 4, 5, 6, 7, 8, 9, 10, 11, 12, 13, 14, 15, 16, 17, 18, 19, 20, 21, 22, 23, 24, 25, 26, 27, 28, 29, 30, 31, 32, 33, 34, 35, 36, 37, 38, 39, 40, 41, 42, 43, 44, 45, 46, 47, 48], [48])])
def swarflaw08_awake.B6 : List Nat := [0, 1, 3, 7, 15, 31, 63, 127, 255, 511, 1023, 2047, 4095, 8191, 16383, 32767, 65535, 131071, 262143, 524287, 1048575, 2097151, 4194303, 8388607, 16777215, 33554431, 67108863, 134217727, 268435455, 536870911, 1073741823, 2147483647, 4294967295, 8589934591, 17179869183, 34359738367, 34359738367, 137438953471, 274877906943, 549755813887, 1099511627775, 1099511627775, 4398046511103, 8796093022207, 17592186044415, 35184372088831, 35184372088831, 140737488355327, 281474976710655, 562949953421311]
theorem swarflaw08_awake.tab6 : rtab .any (opsOf Try.f16 6) = swarflaw08_awake.T6 := by kernel_rfl
theorem swarflaw08_awake.bits6 : waitsOk swarflaw08_awake.T6.2 swarflaw08_awake.B6 = true := by kernel_rfl
set_option maxHeartbeats 8000000 in
set_option maxRecDepth 100000 in
theorem swarflaw08_awake0.calls (k : Nat)  (r : Bool) (w : World) (hrt_ : r = true) (h : swarflaw08_awake0.f k  = some r) :
    Calls Try.prog 16 #[] w fun e w' => e = .returned (.bool r) ∧ Below w.heap.size w w' := by
  have HRT_ := Aside0.mk hrt_
  clear hrt_
  have hu24 := Try.underlying24
  have HB := Aside0.mk (Below.refl w.heap.size w)
  have H : ((swarflaw08_till.f 1000).bind fun bt192 => ((pay_Lawful.f bt192.1 bt192.2.1 bt192.2.2.1 bt192.2.2.2.1 bt192.2.2.2.2).bind fun bt201 => ((swarflaw08_till.f 1500).bind fun bt203 => ((pay_Soonest.f bt203.1 bt203.2.1 bt203.2.2.1 bt203.2.2.2.1 bt203.2.2.2.2 0 4 2000).bind fun bt212 => ((swarflaw08_tags.f).bind fun t214 => ((pay_Match.f k t214 (([(⟨#[65, 66, 63, 63]⟩ : ByteArray), (⟨#[63, 63, 57, 63]⟩ : ByteArray)] : List ByteArray))).bind fun bt220 => ((swarflaw08_hedge.f 30).bind fun bt225 => ((pay_Hedged.f bt225.1 bt225.2.1 bt225.2.2.1 bt225.2.2.2).bind fun bt231 => ((swarflaw08_fixes.f).bind fun t236 => ((swarflaw08_to.f 1000 1500).bind fun bt239 => ((pay_Value.f k t236 12 bt239.1 bt239.2 900).bind fun bt241 => (if bt201.2 = 0 then (if bt212.2 = 0 then (if bt220.2.2 = 0 then (if bt231.2.2 = 0 then (if bt241.2.2 = 0 then (if bt201.1 = 3 then (if bt212.1 = 7 then (if bt220.1 = 3 then (if bt231.2.1 = 3 then ((swarfkit_EqualInts.f k bt220.2.1 (([1] : List Int))).bind fun t248 => (if t248 = true then ((swarfkit_EqualInts.f k bt231.1 (([4, 6, 5] : List Int))).bind fun t252 => (if t252 = true then ((swarflaw08_to.f 189000 283500).bind fun bt253 => (some (bt241.1 == bt253.1 && (bt241.2.1 == bt253.2)))) else (some false))) else (some false))) else (some false)) else (some false)) else (some false)) else (some false)) else (some false)) else (some false)) else (some false)) else (some false)) else (some false))))))))))))) = some r := h
  clear h
  replace H := Option.bind_eq_some_iff.mp H
  obtain ⟨⟨t192, t193, t194, t195, t198⟩, A10, H⟩ := H
  replace H : ((pay_Lawful.f t192 t193 t194 t195 t198).bind fun bt201 => ((swarflaw08_till.f 1500).bind fun bt203 => ((pay_Soonest.f bt203.1 bt203.2.1 bt203.2.2.1 bt203.2.2.2.1 bt203.2.2.2.2 0 4 2000).bind fun bt212 => ((swarflaw08_tags.f).bind fun t214 => ((pay_Match.f k t214 (([(⟨#[65, 66, 63, 63]⟩ : ByteArray), (⟨#[63, 63, 57, 63]⟩ : ByteArray)] : List ByteArray))).bind fun bt220 => ((swarflaw08_hedge.f 30).bind fun bt225 => ((pay_Hedged.f bt225.1 bt225.2.1 bt225.2.2.1 bt225.2.2.2).bind fun bt231 => ((swarflaw08_fixes.f).bind fun t236 => ((swarflaw08_to.f 1000 1500).bind fun bt239 => ((pay_Value.f k t236 12 bt239.1 bt239.2 900).bind fun bt241 => (if bt201.2 = 0 then (if bt212.2 = 0 then (if bt220.2.2 = 0 then (if bt231.2.2 = 0 then (if bt241.2.2 = 0 then (if bt201.1 = 3 then (if bt212.1 = 7 then (if bt220.1 = 3 then (if bt231.2.1 = 3 then ((swarfkit_EqualInts.f k bt220.2.1 (([1] : List Int))).bind fun t248 => (if t248 = true then ((swarfkit_EqualInts.f k bt231.1 (([4, 6, 5] : List Int))).bind fun t252 => (if t252 = true then ((swarflaw08_to.f 189000 283500).bind fun bt253 => (some (bt241.1 == bt253.1 && (bt241.2.1 == bt253.2)))) else (some false))) else (some false))) else (some false)) else (some false)) else (some false)) else (some false)) else (some false)) else (some false)) else (some false)) else (some false)) else (some false)))))))))))) = some r := H
  have A1 := Aside0.mk A10
  clear A10
  replace H := Option.bind_eq_some_iff.mp H
  obtain ⟨⟨t201, t202⟩, A20, H⟩ := H
  replace H : ((swarflaw08_till.f 1500).bind fun bt203 => ((pay_Soonest.f bt203.1 bt203.2.1 bt203.2.2.1 bt203.2.2.2.1 bt203.2.2.2.2 0 4 2000).bind fun bt212 => ((swarflaw08_tags.f).bind fun t214 => ((pay_Match.f k t214 (([(⟨#[65, 66, 63, 63]⟩ : ByteArray), (⟨#[63, 63, 57, 63]⟩ : ByteArray)] : List ByteArray))).bind fun bt220 => ((swarflaw08_hedge.f 30).bind fun bt225 => ((pay_Hedged.f bt225.1 bt225.2.1 bt225.2.2.1 bt225.2.2.2).bind fun bt231 => ((swarflaw08_fixes.f).bind fun t236 => ((swarflaw08_to.f 1000 1500).bind fun bt239 => ((pay_Value.f k t236 12 bt239.1 bt239.2 900).bind fun bt241 => (if t202 = 0 then (if bt212.2 = 0 then (if bt220.2.2 = 0 then (if bt231.2.2 = 0 then (if bt241.2.2 = 0 then (if t201 = 3 then (if bt212.1 = 7 then (if bt220.1 = 3 then (if bt231.2.1 = 3 then ((swarfkit_EqualInts.f k bt220.2.1 (([1] : List Int))).bind fun t248 => (if t248 = true then ((swarfkit_EqualInts.f k bt231.1 (([4, 6, 5] : List Int))).bind fun t252 => (if t252 = true then ((swarflaw08_to.f 189000 283500).bind fun bt253 => (some (bt241.1 == bt253.1 && (bt241.2.1 == bt253.2)))) else (some false))) else (some false))) else (some false)) else (some false)) else (some false)) else (some false)) else (some false)) else (some false)) else (some false)) else (some false)) else (some false))))))))))) = some r := H
  have A2 := Aside0.mk A20
  clear A20
  replace H := Option.bind_eq_some_iff.mp H
  obtain ⟨⟨t203, t204, t205, t206, t209⟩, A30, H⟩ := H
  replace H : ((pay_Soonest.f t203 t204 t205 t206 t209 0 4 2000).bind fun bt212 => ((swarflaw08_tags.f).bind fun t214 => ((pay_Match.f k t214 (([(⟨#[65, 66, 63, 63]⟩ : ByteArray), (⟨#[63, 63, 57, 63]⟩ : ByteArray)] : List ByteArray))).bind fun bt220 => ((swarflaw08_hedge.f 30).bind fun bt225 => ((pay_Hedged.f bt225.1 bt225.2.1 bt225.2.2.1 bt225.2.2.2).bind fun bt231 => ((swarflaw08_fixes.f).bind fun t236 => ((swarflaw08_to.f 1000 1500).bind fun bt239 => ((pay_Value.f k t236 12 bt239.1 bt239.2 900).bind fun bt241 => (if t202 = 0 then (if bt212.2 = 0 then (if bt220.2.2 = 0 then (if bt231.2.2 = 0 then (if bt241.2.2 = 0 then (if t201 = 3 then (if bt212.1 = 7 then (if bt220.1 = 3 then (if bt231.2.1 = 3 then ((swarfkit_EqualInts.f k bt220.2.1 (([1] : List Int))).bind fun t248 => (if t248 = true then ((swarfkit_EqualInts.f k bt231.1 (([4, 6, 5] : List Int))).bind fun t252 => (if t252 = true then ((swarflaw08_to.f 189000 283500).bind fun bt253 => (some (bt241.1 == bt253.1 && (bt241.2.1 == bt253.2)))) else (some false))) else (some false))) else (some false)) else (some false)) else (some false)) else (some false)) else (some false)) else (some false)) else (some false)) else (some false)) else (some false)))))))))) = some r := H
  have A3 := Aside0.mk A30
  clear A30
  replace H := Option.bind_eq_some_iff.mp H
  obtain ⟨⟨t212, t213⟩, A40, H⟩ := H
  replace H : ((swarflaw08_tags.f).bind fun t214 => ((pay_Match.f k t214 (([(⟨#[65, 66, 63, 63]⟩ : ByteArray), (⟨#[63, 63, 57, 63]⟩ : ByteArray)] : List ByteArray))).bind fun bt220 => ((swarflaw08_hedge.f 30).bind fun bt225 => ((pay_Hedged.f bt225.1 bt225.2.1 bt225.2.2.1 bt225.2.2.2).bind fun bt231 => ((swarflaw08_fixes.f).bind fun t236 => ((swarflaw08_to.f 1000 1500).bind fun bt239 => ((pay_Value.f k t236 12 bt239.1 bt239.2 900).bind fun bt241 => (if t202 = 0 then (if t213 = 0 then (if bt220.2.2 = 0 then (if bt231.2.2 = 0 then (if bt241.2.2 = 0 then (if t201 = 3 then (if t212 = 7 then (if bt220.1 = 3 then (if bt231.2.1 = 3 then ((swarfkit_EqualInts.f k bt220.2.1 (([1] : List Int))).bind fun t248 => (if t248 = true then ((swarfkit_EqualInts.f k bt231.1 (([4, 6, 5] : List Int))).bind fun t252 => (if t252 = true then ((swarflaw08_to.f 189000 283500).bind fun bt253 => (some (bt241.1 == bt253.1 && (bt241.2.1 == bt253.2)))) else (some false))) else (some false))) else (some false)) else (some false)) else (some false)) else (some false)) else (some false)) else (some false)) else (some false)) else (some false)) else (some false))))))))) = some r := H
  have A4 := Aside0.mk A40
  clear A40
  replace H := Option.bind_eq_some_iff.mp H
  obtain ⟨t214, A50, H⟩ := H
  replace H : ((pay_Match.f k t214 (([(⟨#[65, 66, 63, 63]⟩ : ByteArray), (⟨#[63, 63, 57, 63]⟩ : ByteArray)] : List ByteArray))).bind fun bt220 => ((swarflaw08_hedge.f 30).bind fun bt225 => ((pay_Hedged.f bt225.1 bt225.2.1 bt225.2.2.1 bt225.2.2.2).bind fun bt231 => ((swarflaw08_fixes.f).bind fun t236 => ((swarflaw08_to.f 1000 1500).bind fun bt239 => ((pay_Value.f k t236 12 bt239.1 bt239.2 900).bind fun bt241 => (if t202 = 0 then (if t213 = 0 then (if bt220.2.2 = 0 then (if bt231.2.2 = 0 then (if bt241.2.2 = 0 then (if t201 = 3 then (if t212 = 7 then (if bt220.1 = 3 then (if bt231.2.1 = 3 then ((swarfkit_EqualInts.f k bt220.2.1 (([1] : List Int))).bind fun t248 => (if t248 = true then ((swarfkit_EqualInts.f k bt231.1 (([4, 6, 5] : List Int))).bind fun t252 => (if t252 = true then ((swarflaw08_to.f 189000 283500).bind fun bt253 => (some (bt241.1 == bt253.1 && (bt241.2.1 == bt253.2)))) else (some false))) else (some false))) else (some false)) else (some false)) else (some false)) else (some false)) else (some false)) else (some false)) else (some false)) else (some false)) else (some false)))))))) = some r := H
  have A5 := Aside0.mk A50
  clear A50
  obtain ⟨y217, hy217⟩ : ∃ y_ : List ByteArray, y_ = (([(⟨#[65, 66, 63, 63]⟩ : ByteArray), (⟨#[63, 63, 57, 63]⟩ : ByteArray)] : List ByteArray)) := ⟨_, rfl⟩
  replace H : ((pay_Match.f k t214 y217).bind fun bt220 => ((swarflaw08_hedge.f 30).bind fun bt225 => ((pay_Hedged.f bt225.1 bt225.2.1 bt225.2.2.1 bt225.2.2.2).bind fun bt231 => ((swarflaw08_fixes.f).bind fun t236 => ((swarflaw08_to.f 1000 1500).bind fun bt239 => ((pay_Value.f k t236 12 bt239.1 bt239.2 900).bind fun bt241 => (if t202 = 0 then (if t213 = 0 then (if bt220.2.2 = 0 then (if bt231.2.2 = 0 then (if bt241.2.2 = 0 then (if t201 = 3 then (if t212 = 7 then (if bt220.1 = 3 then (if bt231.2.1 = 3 then ((swarfkit_EqualInts.f k bt220.2.1 (([1] : List Int))).bind fun t248 => (if t248 = true then ((swarfkit_EqualInts.f k bt231.1 (([4, 6, 5] : List Int))).bind fun t252 => (if t252 = true then ((swarflaw08_to.f 189000 283500).bind fun bt253 => (some (bt241.1 == bt253.1 && (bt241.2.1 == bt253.2)))) else (some false))) else (some false))) else (some false)) else (some false)) else (some false)) else (some false)) else (some false)) else (some false)) else (some false)) else (some false)) else (some false)))))))) = some r := by first | (rw [hy217]; with_reducible exact H) | (have H2_ := (Option.bind_some _ _).symm.trans H; rw [hy217]; with_reducible exact H2_) | (have H2_ := (Option.bind_some _ _).symm.trans H; with_reducible exact H2_) | with_reducible exact H | (rw [hy217]; exact H) | exact H
  have Ny217 := Aside0.mk hy217
  clear hy217
  replace H := Option.bind_eq_some_iff.mp H
  obtain ⟨⟨t220, t221, t222⟩, A60, H⟩ := H
  replace H : ((swarflaw08_hedge.f 30).bind fun bt225 => ((pay_Hedged.f bt225.1 bt225.2.1 bt225.2.2.1 bt225.2.2.2).bind fun bt231 => ((swarflaw08_fixes.f).bind fun t236 => ((swarflaw08_to.f 1000 1500).bind fun bt239 => ((pay_Value.f k t236 12 bt239.1 bt239.2 900).bind fun bt241 => (if t202 = 0 then (if t213 = 0 then (if t222 = 0 then (if bt231.2.2 = 0 then (if bt241.2.2 = 0 then (if t201 = 3 then (if t212 = 7 then (if t220 = 3 then (if bt231.2.1 = 3 then ((swarfkit_EqualInts.f k t221 (([1] : List Int))).bind fun t248 => (if t248 = true then ((swarfkit_EqualInts.f k bt231.1 (([4, 6, 5] : List Int))).bind fun t252 => (if t252 = true then ((swarflaw08_to.f 189000 283500).bind fun bt253 => (some (bt241.1 == bt253.1 && (bt241.2.1 == bt253.2)))) else (some false))) else (some false))) else (some false)) else (some false)) else (some false)) else (some false)) else (some false)) else (some false)) else (some false)) else (some false)) else (some false))))))) = some r := H
  have A6 := Aside0.mk A60
  clear A60
  replace H := Option.bind_eq_some_iff.mp H
  obtain ⟨⟨t225, t228, t229, t230⟩, A70, H⟩ := H
  replace H : ((pay_Hedged.f t225 t228 t229 t230).bind fun bt231 => ((swarflaw08_fixes.f).bind fun t236 => ((swarflaw08_to.f 1000 1500).bind fun bt239 => ((pay_Value.f k t236 12 bt239.1 bt239.2 900).bind fun bt241 => (if t202 = 0 then (if t213 = 0 then (if t222 = 0 then (if bt231.2.2 = 0 then (if bt241.2.2 = 0 then (if t201 = 3 then (if t212 = 7 then (if t220 = 3 then (if bt231.2.1 = 3 then ((swarfkit_EqualInts.f k t221 (([1] : List Int))).bind fun t248 => (if t248 = true then ((swarfkit_EqualInts.f k bt231.1 (([4, 6, 5] : List Int))).bind fun t252 => (if t252 = true then ((swarflaw08_to.f 189000 283500).bind fun bt253 => (some (bt241.1 == bt253.1 && (bt241.2.1 == bt253.2)))) else (some false))) else (some false))) else (some false)) else (some false)) else (some false)) else (some false)) else (some false)) else (some false)) else (some false)) else (some false)) else (some false)))))) = some r := H
  have A7 := Aside0.mk A70
  clear A70
  replace H := Option.bind_eq_some_iff.mp H
  obtain ⟨⟨t231, t234, t235⟩, A80, H⟩ := H
  replace H : ((swarflaw08_fixes.f).bind fun t236 => ((swarflaw08_to.f 1000 1500).bind fun bt239 => ((pay_Value.f k t236 12 bt239.1 bt239.2 900).bind fun bt241 => (if t202 = 0 then (if t213 = 0 then (if t222 = 0 then (if t235 = 0 then (if bt241.2.2 = 0 then (if t201 = 3 then (if t212 = 7 then (if t220 = 3 then (if t234 = 3 then ((swarfkit_EqualInts.f k t221 (([1] : List Int))).bind fun t248 => (if t248 = true then ((swarfkit_EqualInts.f k t231 (([4, 6, 5] : List Int))).bind fun t252 => (if t252 = true then ((swarflaw08_to.f 189000 283500).bind fun bt253 => (some (bt241.1 == bt253.1 && (bt241.2.1 == bt253.2)))) else (some false))) else (some false))) else (some false)) else (some false)) else (some false)) else (some false)) else (some false)) else (some false)) else (some false)) else (some false)) else (some false))))) = some r := H
  have A8 := Aside0.mk A80
  clear A80
  replace H := Option.bind_eq_some_iff.mp H
  obtain ⟨t236, A90, H⟩ := H
  replace H : ((swarflaw08_to.f 1000 1500).bind fun bt239 => ((pay_Value.f k t236 12 bt239.1 bt239.2 900).bind fun bt241 => (if t202 = 0 then (if t213 = 0 then (if t222 = 0 then (if t235 = 0 then (if bt241.2.2 = 0 then (if t201 = 3 then (if t212 = 7 then (if t220 = 3 then (if t234 = 3 then ((swarfkit_EqualInts.f k t221 (([1] : List Int))).bind fun t248 => (if t248 = true then ((swarfkit_EqualInts.f k t231 (([4, 6, 5] : List Int))).bind fun t252 => (if t252 = true then ((swarflaw08_to.f 189000 283500).bind fun bt253 => (some (bt241.1 == bt253.1 && (bt241.2.1 == bt253.2)))) else (some false))) else (some false))) else (some false)) else (some false)) else (some false)) else (some false)) else (some false)) else (some false)) else (some false)) else (some false)) else (some false)))) = some r := H
  have A9 := Aside0.mk A90
  clear A90
  replace H := Option.bind_eq_some_iff.mp H
  obtain ⟨⟨t239, t240⟩, A100, H⟩ := H
  replace H : ((pay_Value.f k t236 12 t239 t240 900).bind fun bt241 => (if t202 = 0 then (if t213 = 0 then (if t222 = 0 then (if t235 = 0 then (if bt241.2.2 = 0 then (if t201 = 3 then (if t212 = 7 then (if t220 = 3 then (if t234 = 3 then ((swarfkit_EqualInts.f k t221 (([1] : List Int))).bind fun t248 => (if t248 = true then ((swarfkit_EqualInts.f k t231 (([4, 6, 5] : List Int))).bind fun t252 => (if t252 = true then ((swarflaw08_to.f 189000 283500).bind fun bt253 => (some (bt241.1 == bt253.1 && (bt241.2.1 == bt253.2)))) else (some false))) else (some false))) else (some false)) else (some false)) else (some false)) else (some false)) else (some false)) else (some false)) else (some false)) else (some false)) else (some false))) = some r := H
  have A10 := Aside0.mk A100
  clear A100
  replace H := Option.bind_eq_some_iff.mp H
  obtain ⟨⟨t241, t242, t243⟩, A110, H⟩ := H
  replace H : (if t202 = 0 then (if t213 = 0 then (if t222 = 0 then (if t235 = 0 then (if t243 = 0 then (if t201 = 3 then (if t212 = 7 then (if t220 = 3 then (if t234 = 3 then ((swarfkit_EqualInts.f k t221 (([1] : List Int))).bind fun t248 => (if t248 = true then ((swarfkit_EqualInts.f k t231 (([4, 6, 5] : List Int))).bind fun t252 => (if t252 = true then ((swarflaw08_to.f 189000 283500).bind fun bt253 => (some (t241 == bt253.1 && (t242 == bt253.2)))) else (some false))) else (some false))) else (some false)) else (some false)) else (some false)) else (some false)) else (some false)) else (some false)) else (some false)) else (some false)) else (some false)) = some r := H
  have A11 := Aside0.mk A110
  clear A110
  by_cases c12 : t202 = 0
  · rw [if_pos c12] at H
    have c12b0 : (t202 == 0) = true := beq_iff_eq.mpr c12
    have c12b1 : (t202 != 0) = false := bne_eq_false_iff_eq.mpr c12
    clear c12
    by_cases c13 : t213 = 0
    · rw [if_pos c13] at H
      have c13b0 : (t213 == 0) = true := beq_iff_eq.mpr c13
      have c13b1 : (t213 != 0) = false := bne_eq_false_iff_eq.mpr c13
      clear c13
      by_cases c14 : t222 = 0
      · rw [if_pos c14] at H
        have c14b0 : (t222 == 0) = true := beq_iff_eq.mpr c14
        have c14b1 : (t222 != 0) = false := bne_eq_false_iff_eq.mpr c14
        clear c14
        by_cases c15 : t235 = 0
        · rw [if_pos c15] at H
          have c15b0 : (t235 == 0) = true := beq_iff_eq.mpr c15
          have c15b1 : (t235 != 0) = false := bne_eq_false_iff_eq.mpr c15
          clear c15
          by_cases c16 : t243 = 0
          · rw [if_pos c16] at H
            have c16b0 : (t243 == 0) = true := beq_iff_eq.mpr c16
            have c16b1 : (t243 != 0) = false := bne_eq_false_iff_eq.mpr c16
            clear c16
            by_cases c17 : t201 = 3
            · rw [if_pos c17] at H
              have c17b0 : (t201 == 3) = true := beq_iff_eq.mpr c17
              have c17b1 : (t201 != 3) = false := bne_eq_false_iff_eq.mpr c17
              clear c17
              by_cases c18 : t212 = 7
              · rw [if_pos c18] at H
                have c18b0 : (t212 == 7) = true := beq_iff_eq.mpr c18
                have c18b1 : (t212 != 7) = false := bne_eq_false_iff_eq.mpr c18
                clear c18
                by_cases c19 : t220 = 3
                · rw [if_pos c19] at H
                  have c19b0 : (t220 == 3) = true := beq_iff_eq.mpr c19
                  have c19b1 : (t220 != 3) = false := bne_eq_false_iff_eq.mpr c19
                  clear c19
                  by_cases c20 : t234 = 3
                  · rw [if_pos c20] at H
                    have c20b0 : (t234 == 3) = true := beq_iff_eq.mpr c20
                    have c20b1 : (t234 != 3) = false := bne_eq_false_iff_eq.mpr c20
                    clear c20
                    obtain ⟨y245, hy245⟩ : ∃ y_ : List Int, y_ = (([1] : List Int)) := ⟨_, rfl⟩
                    replace H : ((swarfkit_EqualInts.f k t221 y245).bind fun t248 => (if t248 = true then ((swarfkit_EqualInts.f k t231 (([4, 6, 5] : List Int))).bind fun t252 => (if t252 = true then ((swarflaw08_to.f 189000 283500).bind fun bt253 => (some (t241 == bt253.1 && (t242 == bt253.2)))) else (some false))) else (some false))) = some r := by first | (rw [hy245]; with_reducible exact H) | (have H2_ := (Option.bind_some _ _).symm.trans H; rw [hy245]; with_reducible exact H2_) | (have H2_ := (Option.bind_some _ _).symm.trans H; with_reducible exact H2_) | with_reducible exact H | (rw [hy245]; exact H) | exact H
                    have Ny245 := Aside0.mk hy245
                    clear hy245
                    replace H := Option.bind_eq_some_iff.mp H
                    obtain ⟨t248, A210, H⟩ := H
                    replace H : (if t248 = true then ((swarfkit_EqualInts.f k t231 (([4, 6, 5] : List Int))).bind fun t252 => (if t252 = true then ((swarflaw08_to.f 189000 283500).bind fun bt253 => (some (t241 == bt253.1 && (t242 == bt253.2)))) else (some false))) else (some false)) = some r := H
                    have A21 := Aside0.mk A210
                    clear A210
                    by_cases c22 : t248 = true
                    · subst c22
                      have H1 : ((swarfkit_EqualInts.f k t231 (([4, 6, 5] : List Int))).bind fun t252 => (if t252 = true then ((swarflaw08_to.f 189000 283500).bind fun bt253 => (some (t241 == bt253.1 && (t242 == bt253.2)))) else (some false))) = some r := by rw [if_pos rfl] at H; exact H
                      clear H
                      have H := H1
                      clear H1
                      obtain ⟨y249, hy249⟩ : ∃ y_ : List Int, y_ = (([4, 6, 5] : List Int)) := ⟨_, rfl⟩
                      replace H : ((swarfkit_EqualInts.f k t231 y249).bind fun t252 => (if t252 = true then ((swarflaw08_to.f 189000 283500).bind fun bt253 => (some (t241 == bt253.1 && (t242 == bt253.2)))) else (some false))) = some r := by first | (rw [hy249]; with_reducible exact H) | (have H2_ := (Option.bind_some _ _).symm.trans H; rw [hy249]; with_reducible exact H2_) | (have H2_ := (Option.bind_some _ _).symm.trans H; with_reducible exact H2_) | with_reducible exact H | (rw [hy249]; exact H) | exact H
                      have Ny249 := Aside0.mk hy249
                      clear hy249
                      replace H := Option.bind_eq_some_iff.mp H
                      obtain ⟨t252, A230, H⟩ := H
                      replace H : (if t252 = true then ((swarflaw08_to.f 189000 283500).bind fun bt253 => (some (t241 == bt253.1 && (t242 == bt253.2)))) else (some false)) = some r := H
                      have A23 := Aside0.mk A230
                      clear A230
                      by_cases c24 : t252 = true
                      · subst c24
                        have H1 : ((swarflaw08_to.f 189000 283500).bind fun bt253 => (some (t241 == bt253.1 && (t242 == bt253.2)))) = some r := by rw [if_pos rfl] at H; exact H
                        clear H
                        have H := H1
                        clear H1
                        replace H := Option.bind_eq_some_iff.mp H
                        obtain ⟨⟨t253, t254⟩, A250, H⟩ := H
                        replace H : (some (t241 == t253 && (t242 == t254))) = some r := H
                        have A25 := Aside0.mk A250
                        clear A250
                        obtain rfl := Option.some.inj H
                        go_enter Try.func16, Try.ntmps16
                        try go_wp2_with (first | ((with_reducible refine gate_callee (f := 75) rfl ?_); refine goesL_ (some 14) rfl rfl Try.func75 (by kernel_rfl) rfl #[.int .i64 1000] rfl (by (try simp only [List.map_toArray, List.map_cons, List.map_nil]); first | done | rfl | (simp only [List.length_drop, List.length_take]; rfl)) ?_; (with_reducible refine (swarflaw08_till.calls 1000 t192 t193 t194 t195 t198 _ A1.out).mono ?_); rintro e w26 ⟨v196, v199, rfl, ho0, ho1, hb⟩; refine ⟨_, rfl, ?_⟩; have n0_ := Aside0.mk (Kd.R_lower ho0 (below_size (by repeat (first | (with_reducible first | exact HB.out | apply below_alloc | apply pw_below_drewN | apply below_drew1) | exact HB.out)))); have n1_ := Aside0.mk (Kd.R_lower ho1 (below_size (by repeat (first | (with_reducible first | exact HB.out | apply below_alloc | apply pw_below_drewN | apply below_drew1) | exact HB.out)))); have n2_ := Aside0.mk (below_step (by repeat (first | (with_reducible first | exact HB.out | apply below_alloc | apply pw_below_drewN | apply below_drew1) | exact HB.out)) hb); clear HB; have HO197 := n0_; have HO200 := n1_; have HB := n2_; clear n0_ n1_ n2_; (try clear hb); (try clear hb2); (try clear hk); (try clear hi); (try clear ho0); (try clear ho1); obtain ⟨Ao27, co27, eo27⟩ := Kd.R_slice HO197.out; subst eo27; obtain ⟨Ao28, co28, eo28⟩ := Kd.R_slice HO200.out; subst eo28) | ((with_reducible refine gate_callee (f := 38) rfl ?_); refine goesL_ (some 15) rfl rfl Try.func38 (by kernel_rfl) rfl #[.agg #[.int .i64 t192, .int .i64 t193, .int .i64 t194, .slice Ao27 t195.length co27, .slice Ao28 t198.length co28]] rfl (by (try simp only [List.map_toArray, List.map_cons, List.map_nil]); first | done | rfl | (simp only [List.length_drop, List.length_take]; rfl)) ?_; (with_reducible refine (pay_Lawful.calls t192 t193 t194 _ _ t195 _ _ t198 t201 t202 _ ?side1 ?side2 ?side3 ?side4 A2.out).mono ?_); (case side1 => repeat (first | exact (Kd.R_reads' HO197.out).2.2 | (with_reducible refine Kd.C_alloc ?_ _) | (with_reducible refine Kd.C_drewN ?_ _) | (with_reducible refine Kd.C_drew ?_))); (case side2 => exact (Kd.R_reads' HO197.out).2.1); (case side3 => repeat (first | exact (Kd.R_reads' HO200.out).2.2 | (with_reducible refine Kd.C_alloc ?_ _) | (with_reducible refine Kd.C_drewN ?_ _) | (with_reducible refine Kd.C_drew ?_))); (case side4 => exact (Kd.R_reads' HO200.out).2.1); rintro e w29 ⟨rfl, hb⟩; refine ⟨_, rfl, ?_⟩; have n0_ := Aside0.mk (Kd.R_below (by (with_reducible repeat (first | apply Kd.R_alloc | apply Kd.R_drewN | apply Kd.R_drew)); exact HO197.out) hb); have n1_ := Aside0.mk (Kd.R_below (by (with_reducible repeat (first | apply Kd.R_alloc | apply Kd.R_drewN | apply Kd.R_drew)); exact HO200.out) hb); have n2_ := Aside0.mk (below_step (by repeat (first | (with_reducible first | exact HB.out | apply below_alloc | apply pw_below_drewN | apply below_drew1) | exact HB.out)) hb); clear HO197; clear HO200; clear HB; have HO197 := n0_; have HO200 := n1_; have HB := n2_; clear n0_ n1_ n2_; (try clear hb); (try clear hb2); (try clear hk); (try clear hi)) | ((with_reducible refine gate_callee (f := 75) rfl ?_); refine goesL_ (some 19) rfl rfl Try.func75 (by kernel_rfl) rfl #[.int .i64 1500] rfl (by (try simp only [List.map_toArray, List.map_cons, List.map_nil]); first | done | rfl | (simp only [List.length_drop, List.length_take]; rfl)) ?_; (with_reducible refine (swarflaw08_till.calls 1500 t203 t204 t205 t206 t209 _ A3.out).mono ?_); rintro e w30 ⟨v207, v210, rfl, ho0, ho1, hb⟩; refine ⟨_, rfl, ?_⟩; have n0_ := Aside0.mk (Kd.R_elder' (by (with_reducible repeat (first | apply Kd.R_alloc | apply Kd.R_drewN | apply Kd.R_drew)); exact HO197.out) (Kd.R_base ho0) hb); have n1_ := Aside0.mk (Kd.R_elder' (by (with_reducible repeat (first | apply Kd.R_alloc | apply Kd.R_drewN | apply Kd.R_drew)); exact HO200.out) (Kd.R_base ho1) hb); have n2_ := Aside0.mk (Kd.R_lower (Kd.R_new' ho0 (Kd.R_lt (by (with_reducible repeat (first | apply Kd.R_alloc | apply Kd.R_drewN | apply Kd.R_drew)); exact HO197.out))) (below_size (by repeat (first | (with_reducible first | exact HB.out | apply below_alloc | apply pw_below_drewN | apply below_drew1) | exact HB.out)))); have n3_ := Aside0.mk (Kd.R_lower (Kd.R_new' ho1 (Kd.R_lt (by (with_reducible repeat (first | apply Kd.R_alloc | apply Kd.R_drewN | apply Kd.R_drew)); exact HO200.out))) (below_size (by repeat (first | (with_reducible first | exact HB.out | apply below_alloc | apply pw_below_drewN | apply below_drew1) | exact HB.out)))); have n4_ := Aside0.mk (below_step (by repeat (first | (with_reducible first | exact HB.out | apply below_alloc | apply pw_below_drewN | apply below_drew1) | exact HB.out)) hb); clear HO197; clear HO200; clear HB; have HO197 := n0_; have HO200 := n1_; have HO208 := n2_; have HO211 := n3_; have HB := n4_; clear n0_ n1_ n2_ n3_ n4_; (try clear hb); (try clear hb2); (try clear hk); (try clear hi); (try clear ho0); (try clear ho1); obtain ⟨Ao31, co31, eo31⟩ := Kd.R_slice HO208.out; subst eo31; obtain ⟨Ao32, co32, eo32⟩ := Kd.R_slice HO211.out; subst eo32) | ((with_reducible refine gate_callee (f := 36) rfl ?_); refine goesL_ (some 20) rfl rfl Try.func36 (by kernel_rfl) rfl #[.agg #[.int .i64 t203, .int .i64 t204, .int .i64 t205, .slice Ao31 t206.length co31, .slice Ao32 t209.length co32], .int .i64 0, .int .i64 4, .int .i64 2000] rfl (by (try simp only [List.map_toArray, List.map_cons, List.map_nil]); first | done | rfl | (simp only [List.length_drop, List.length_take]; rfl)) ?_; (with_reducible refine (pay_Soonest.calls t203 t204 t205 _ _ t206 _ _ t209 0 4 2000 t212 t213 _ ?side1 ?side2 ?side3 ?side4 A4.out).mono ?_); (case side1 => repeat (first | exact (Kd.R_reads' HO208.out).2.2 | (with_reducible refine Kd.C_alloc ?_ _) | (with_reducible refine Kd.C_drewN ?_ _) | (with_reducible refine Kd.C_drew ?_))); (case side2 => exact (Kd.R_reads' HO208.out).2.1); (case side3 => repeat (first | exact (Kd.R_reads' HO211.out).2.2 | (with_reducible refine Kd.C_alloc ?_ _) | (with_reducible refine Kd.C_drewN ?_ _) | (with_reducible refine Kd.C_drew ?_))); (case side4 => exact (Kd.R_reads' HO211.out).2.1); rintro e w33 ⟨rfl, hb⟩; refine ⟨_, rfl, ?_⟩; have n0_ := Aside0.mk (Kd.R_below (by (with_reducible repeat (first | apply Kd.R_alloc | apply Kd.R_drewN | apply Kd.R_drew)); exact HO197.out) hb); have n1_ := Aside0.mk (Kd.R_below (by (with_reducible repeat (first | apply Kd.R_alloc | apply Kd.R_drewN | apply Kd.R_drew)); exact HO200.out) hb); have n2_ := Aside0.mk (Kd.R_below (by (with_reducible repeat (first | apply Kd.R_alloc | apply Kd.R_drewN | apply Kd.R_drew)); exact HO208.out) hb); have n3_ := Aside0.mk (Kd.R_below (by (with_reducible repeat (first | apply Kd.R_alloc | apply Kd.R_drewN | apply Kd.R_drew)); exact HO211.out) hb); have n4_ := Aside0.mk (below_step (by repeat (first | (with_reducible first | exact HB.out | apply below_alloc | apply pw_below_drewN | apply below_drew1) | exact HB.out)) hb); clear HO197; clear HO200; clear HO208; clear HO211; clear HB; have HO197 := n0_; have HO200 := n1_; have HO208 := n2_; have HO211 := n3_; have HB := n4_; clear n0_ n1_ n2_ n3_ n4_; (try clear hb); (try clear hb2); (try clear hk); (try clear hi)) | ((with_reducible refine gate_callee (f := 76) rfl ?_); refine goesL_ (some 24) rfl rfl Try.func76 (by kernel_rfl) rfl #[] rfl (by (try simp only [List.map_toArray, List.map_cons, List.map_nil]); first | done | rfl | (simp only [List.length_drop, List.length_take]; rfl)) ?_; (with_reducible refine (swarflaw08_tags.calls  t214 _ A5.out).mono ?_); rintro e w34 ⟨v215, rfl, ho0, hb⟩; refine ⟨_, rfl, ?_⟩; have n0_ := Aside0.mk (Kd.R_below (by (with_reducible repeat (first | apply Kd.R_alloc | apply Kd.R_drewN | apply Kd.R_drew)); exact HO197.out) hb); have n1_ := Aside0.mk (Kd.R_below (by (with_reducible repeat (first | apply Kd.R_alloc | apply Kd.R_drewN | apply Kd.R_drew)); exact HO200.out) hb); have n2_ := Aside0.mk (Kd.R_below (by (with_reducible repeat (first | apply Kd.R_alloc | apply Kd.R_drewN | apply Kd.R_drew)); exact HO208.out) hb); have n3_ := Aside0.mk (Kd.R_below (by (with_reducible repeat (first | apply Kd.R_alloc | apply Kd.R_drewN | apply Kd.R_drew)); exact HO211.out) hb); have n4_ := Aside0.mk (Kd.R_lower ho0 (below_size (by repeat (first | (with_reducible first | exact HB.out | apply below_alloc | apply pw_below_drewN | apply below_drew1) | exact HB.out)))); have n5_ := Aside0.mk (below_step (by repeat (first | (with_reducible first | exact HB.out | apply below_alloc | apply pw_below_drewN | apply below_drew1) | exact HB.out)) hb); clear HO197; clear HO200; clear HO208; clear HO211; clear HB; have HO197 := n0_; have HO200 := n1_; have HO208 := n2_; have HO211 := n3_; have HO216 := n4_; have HB := n5_; clear n0_ n1_ n2_ n3_ n4_ n5_; (try clear hb); (try clear hb2); (try clear hk); (try clear hi); (try clear ho0)) | ((with_reducible refine gate_dst (N := 25) rfl ?_); (try (refine gate_guard (by rfl) ?_; dsimp only)); refine Kd.R_lit Kd.string _ 9 ?hg (N := 25) ?hd (xs := ([(⟨#[65, 66, 63, 63]⟩ : ByteArray), (⟨#[63, 63, 57, 63]⟩ : ByteArray)] : List ByteArray)) (inner := [.string (⟨#[65, 66, 63, 63]⟩ : ByteArray), .string (⟨#[63, 63, 57, 63]⟩ : ByteArray)]) (ok := fun _ => True) (okp := fun _ => True) ?hr ?hp (fun _ hk => hk) trivial (Below.refl _ _) (Nat.le_refl _) (by simp) ?_; (case hd => rfl); (case hg => rfl); (case hr => first | (go_simp; done) | (go_simp; rfl)); (case hp => exact (Reps.one (show Kd.M Kd.string _ _ _ (⟨#[65, 66, 63, 63]⟩ : ByteArray) [.string (⟨#[65, 66, 63, 63]⟩ : ByteArray)] from rfl) (Reps.one (show Kd.M Kd.string _ _ _ (⟨#[63, 63, 57, 63]⟩ : ByteArray) [.string (⟨#[63, 63, 57, 63]⟩ : ByteArray)] from rfl) (Reps.none _ _)))); intro v218 w35 ho36 hb hg_ hnew_; clear hg_ hnew_; (first | rw [← Ny217.out] at ho36 | (simp only [Int.reduceToNat] at ho36; rw [← Ny217.out] at ho36)); have n0_ := Aside0.mk (Kd.R_below (by (with_reducible repeat (first | apply Kd.R_alloc | apply Kd.R_drewN | apply Kd.R_drew)); exact HO197.out) hb); have n1_ := Aside0.mk (Kd.R_below (by (with_reducible repeat (first | apply Kd.R_alloc | apply Kd.R_drewN | apply Kd.R_drew)); exact HO200.out) hb); have n2_ := Aside0.mk (Kd.R_below (by (with_reducible repeat (first | apply Kd.R_alloc | apply Kd.R_drewN | apply Kd.R_drew)); exact HO208.out) hb); have n3_ := Aside0.mk (Kd.R_below (by (with_reducible repeat (first | apply Kd.R_alloc | apply Kd.R_drewN | apply Kd.R_drew)); exact HO211.out) hb); have n4_ := Aside0.mk (Kd.R_below (by (with_reducible repeat (first | apply Kd.R_alloc | apply Kd.R_drewN | apply Kd.R_drew)); exact HO216.out) hb); have n5_ := Aside0.mk (Kd.R_lower ho36 (below_size (by repeat (first | (with_reducible first | exact HB.out | apply below_alloc | apply pw_below_drewN | apply below_drew1) | exact HB.out)))); have n6_ := Aside0.mk (below_step (by repeat (first | (with_reducible first | exact HB.out | apply below_alloc | apply pw_below_drewN | apply below_drew1) | exact HB.out)) hb); clear HO197; clear HO200; clear HO208; clear HO211; clear HO216; clear HB; have HO197 := n0_; have HO200 := n1_; have HO208 := n2_; have HO211 := n3_; have HO216 := n4_; have HO219 := n5_; have HB := n6_; clear n0_ n1_ n2_ n3_ n4_ n5_ n6_; clear hb ho36; obtain ⟨Ao37, co37, eo37⟩ := Kd.R_slice HO216.out; subst eo37; obtain ⟨Ao38, co38, eo38⟩ := Kd.R_slice HO219.out; subst eo38) | ((with_reducible refine gate_callee (f := 42) rfl ?_); refine goesL_ (some 26) rfl rfl Try.func42 (by kernel_rfl) rfl #[.slice Ao37 t214.length co37, .slice Ao38 y217.length co38] rfl (by (try simp only [List.map_toArray, List.map_cons, List.map_nil]); first | done | rfl | (simp only [List.length_drop, List.length_take]; rfl)) ?_; (with_reducible refine (pay_Match.calls k _ _ t214 _ _ y217 t220 t221 t222 _ ?side1 ?side2 ?side3 ?side4 A6.out).mono ?_); (case side1 => repeat (first | exact (Kd.R_reads' HO216.out).2.2 | (with_reducible refine Kd.C_alloc ?_ _) | (with_reducible refine Kd.C_drewN ?_ _) | (with_reducible refine Kd.C_drew ?_))); (case side2 => exact (Kd.R_reads' HO216.out).2.1); (case side3 => repeat (first | exact (Kd.R_reads' HO219.out).2.2 | (with_reducible refine Kd.C_alloc ?_ _) | (with_reducible refine Kd.C_drewN ?_ _) | (with_reducible refine Kd.C_drew ?_))); (case side4 => exact (Kd.R_reads' HO219.out).2.1); rintro e w39 ⟨v223, rfl, ho0, hb⟩; refine ⟨_, rfl, ?_⟩; have n0_ := Aside0.mk (Kd.R_below (by (with_reducible repeat (first | apply Kd.R_alloc | apply Kd.R_drewN | apply Kd.R_drew)); exact HO197.out) hb); have n1_ := Aside0.mk (Kd.R_below (by (with_reducible repeat (first | apply Kd.R_alloc | apply Kd.R_drewN | apply Kd.R_drew)); exact HO200.out) hb); have n2_ := Aside0.mk (Kd.R_below (by (with_reducible repeat (first | apply Kd.R_alloc | apply Kd.R_drewN | apply Kd.R_drew)); exact HO208.out) hb); have n3_ := Aside0.mk (Kd.R_below (by (with_reducible repeat (first | apply Kd.R_alloc | apply Kd.R_drewN | apply Kd.R_drew)); exact HO211.out) hb); have n4_ := Aside0.mk (Kd.R_below (by (with_reducible repeat (first | apply Kd.R_alloc | apply Kd.R_drewN | apply Kd.R_drew)); exact HO216.out) hb); have n5_ := Aside0.mk (Kd.R_below (by (with_reducible repeat (first | apply Kd.R_alloc | apply Kd.R_drewN | apply Kd.R_drew)); exact HO219.out) hb); have n6_ := Aside0.mk (Kd.R_lower ho0 (below_size (by repeat (first | (with_reducible first | exact HB.out | apply below_alloc | apply pw_below_drewN | apply below_drew1) | exact HB.out)))); have n7_ := Aside0.mk (below_step (by repeat (first | (with_reducible first | exact HB.out | apply below_alloc | apply pw_below_drewN | apply below_drew1) | exact HB.out)) hb); clear HO197; clear HO200; clear HO208; clear HO211; clear HO216; clear HO219; clear HB; have HO197 := n0_; have HO200 := n1_; have HO208 := n2_; have HO211 := n3_; have HO216 := n4_; have HO219 := n5_; have HO224 := n6_; have HB := n7_; clear n0_ n1_ n2_ n3_ n4_ n5_ n6_ n7_; (try clear hb); (try clear hb2); (try clear hk); (try clear hi); (try clear ho0)) | ((with_reducible refine gate_callee (f := 77) rfl ?_); refine goesL_ (some 31) rfl rfl Try.func77 (by kernel_rfl) rfl #[.int .i64 30] rfl (by (try simp only [List.map_toArray, List.map_cons, List.map_nil]); first | done | rfl | (simp only [List.length_drop, List.length_take]; rfl)) ?_; (with_reducible refine (swarflaw08_hedge.calls 30 t225 t228 t229 t230 _ A7.out).mono ?_); rintro e w40 ⟨v226, rfl, ho0, hb⟩; refine ⟨_, rfl, ?_⟩; have n0_ := Aside0.mk (Kd.R_below (by (with_reducible repeat (first | apply Kd.R_alloc | apply Kd.R_drewN | apply Kd.R_drew)); exact HO197.out) hb); have n1_ := Aside0.mk (Kd.R_below (by (with_reducible repeat (first | apply Kd.R_alloc | apply Kd.R_drewN | apply Kd.R_drew)); exact HO200.out) hb); have n2_ := Aside0.mk (Kd.R_below (by (with_reducible repeat (first | apply Kd.R_alloc | apply Kd.R_drewN | apply Kd.R_drew)); exact HO208.out) hb); have n3_ := Aside0.mk (Kd.R_below (by (with_reducible repeat (first | apply Kd.R_alloc | apply Kd.R_drewN | apply Kd.R_drew)); exact HO211.out) hb); have n4_ := Aside0.mk (Kd.R_below (by (with_reducible repeat (first | apply Kd.R_alloc | apply Kd.R_drewN | apply Kd.R_drew)); exact HO216.out) hb); have n5_ := Aside0.mk (Kd.R_below (by (with_reducible repeat (first | apply Kd.R_alloc | apply Kd.R_drewN | apply Kd.R_drew)); exact HO219.out) hb); have n6_ := Aside0.mk (Kd.R_below (by (with_reducible repeat (first | apply Kd.R_alloc | apply Kd.R_drewN | apply Kd.R_drew)); exact HO224.out) hb); have n7_ := Aside0.mk (Kd.R_lower ho0 (below_size (by repeat (first | (with_reducible first | exact HB.out | apply below_alloc | apply pw_below_drewN | apply below_drew1) | exact HB.out)))); have n8_ := Aside0.mk (below_step (by repeat (first | (with_reducible first | exact HB.out | apply below_alloc | apply pw_below_drewN | apply below_drew1) | exact HB.out)) hb); clear HO197; clear HO200; clear HO208; clear HO211; clear HO216; clear HO219; clear HO224; clear HB; have HO197 := n0_; have HO200 := n1_; have HO208 := n2_; have HO211 := n3_; have HO216 := n4_; have HO219 := n5_; have HO224 := n6_; have HO227 := n7_; have HB := n8_; clear n0_ n1_ n2_ n3_ n4_ n5_ n6_ n7_ n8_; (try clear hb); (try clear hb2); (try clear hk); (try clear hi); (try clear ho0); obtain ⟨Ao41, co41, eo41⟩ := Kd.R_slice HO227.out; subst eo41) | ((with_reducible refine gate_callee (f := 59) rfl ?_); refine goesL_ (some 32) rfl rfl Try.func59 (by kernel_rfl) rfl #[.agg #[.slice Ao41 t225.length co41, .int .i64 t228, .int .i64 t229, .int .i64 t230]] rfl (by (try simp only [List.map_toArray, List.map_cons, List.map_nil]); first | done | rfl | (simp only [List.length_drop, List.length_take]; rfl)) ?_; (with_reducible refine (pay_Hedged.calls _ _ t225 t228 t229 t230 t231 t234 t235 _ ?side1 ?side2 A8.out).mono ?_); (case side1 => repeat (first | exact (Kd.R_reads' HO227.out).2.2 | (with_reducible refine Kd.C_alloc ?_ _) | (with_reducible refine Kd.C_drewN ?_ _) | (with_reducible refine Kd.C_drew ?_))); (case side2 => exact (Kd.R_reads' HO227.out).2.1); rintro e w42 ⟨v232, rfl, ho0, hb⟩; refine ⟨_, rfl, ?_⟩; have n0_ := Aside0.mk (Kd.R_below (by (with_reducible repeat (first | apply Kd.R_alloc | apply Kd.R_drewN | apply Kd.R_drew)); exact HO197.out) hb); have n1_ := Aside0.mk (Kd.R_below (by (with_reducible repeat (first | apply Kd.R_alloc | apply Kd.R_drewN | apply Kd.R_drew)); exact HO200.out) hb); have n2_ := Aside0.mk (Kd.R_below (by (with_reducible repeat (first | apply Kd.R_alloc | apply Kd.R_drewN | apply Kd.R_drew)); exact HO208.out) hb); have n3_ := Aside0.mk (Kd.R_below (by (with_reducible repeat (first | apply Kd.R_alloc | apply Kd.R_drewN | apply Kd.R_drew)); exact HO211.out) hb); have n4_ := Aside0.mk (Kd.R_below (by (with_reducible repeat (first | apply Kd.R_alloc | apply Kd.R_drewN | apply Kd.R_drew)); exact HO216.out) hb); have n5_ := Aside0.mk (Kd.R_below (by (with_reducible repeat (first | apply Kd.R_alloc | apply Kd.R_drewN | apply Kd.R_drew)); exact HO219.out) hb); have n6_ := Aside0.mk (Kd.R_elder' (by (with_reducible repeat (first | apply Kd.R_alloc | apply Kd.R_drewN | apply Kd.R_drew)); exact HO224.out) (Kd.R_base ho0) hb); have n7_ := Aside0.mk (Kd.R_below (by (with_reducible repeat (first | apply Kd.R_alloc | apply Kd.R_drewN | apply Kd.R_drew)); exact HO227.out) hb); have n8_ := Aside0.mk (Kd.R_lower (Kd.R_new' ho0 (Kd.R_lt (by (with_reducible repeat (first | apply Kd.R_alloc | apply Kd.R_drewN | apply Kd.R_drew)); exact HO224.out))) (below_size (by repeat (first | (with_reducible first | exact HB.out | apply below_alloc | apply pw_below_drewN | apply below_drew1) | exact HB.out)))); have n9_ := Aside0.mk (below_step (by repeat (first | (with_reducible first | exact HB.out | apply below_alloc | apply pw_below_drewN | apply below_drew1) | exact HB.out)) hb); clear HO197; clear HO200; clear HO208; clear HO211; clear HO216; clear HO219; clear HO224; clear HO227; clear HB; have HO197 := n0_; have HO200 := n1_; have HO208 := n2_; have HO211 := n3_; have HO216 := n4_; have HO219 := n5_; have HO224 := n6_; have HO227 := n7_; have HO233 := n8_; have HB := n9_; clear n0_ n1_ n2_ n3_ n4_ n5_ n6_ n7_ n8_ n9_; (try clear hb); (try clear hb2); (try clear hk); (try clear hi); (try clear ho0)) | ((with_reducible refine gate_callee (f := 78) rfl ?_); refine goesL_ (some 37) rfl rfl Try.func78 (by kernel_rfl) rfl #[] rfl (by (try simp only [List.map_toArray, List.map_cons, List.map_nil]); first | done | rfl | (simp only [List.length_drop, List.length_take]; rfl)) ?_; (with_reducible refine (swarflaw08_fixes.calls  t236 _ A9.out).mono ?_); rintro e w43 ⟨v237, rfl, ho0, hb⟩; refine ⟨_, rfl, ?_⟩; have n0_ := Aside0.mk (Kd.R_below (by (with_reducible repeat (first | apply Kd.R_alloc | apply Kd.R_drewN | apply Kd.R_drew)); exact HO197.out) hb); have n1_ := Aside0.mk (Kd.R_below (by (with_reducible repeat (first | apply Kd.R_alloc | apply Kd.R_drewN | apply Kd.R_drew)); exact HO200.out) hb); have n2_ := Aside0.mk (Kd.R_below (by (with_reducible repeat (first | apply Kd.R_alloc | apply Kd.R_drewN | apply Kd.R_drew)); exact HO208.out) hb); have n3_ := Aside0.mk (Kd.R_below (by (with_reducible repeat (first | apply Kd.R_alloc | apply Kd.R_drewN | apply Kd.R_drew)); exact HO211.out) hb); have n4_ := Aside0.mk (Kd.R_below (by (with_reducible repeat (first | apply Kd.R_alloc | apply Kd.R_drewN | apply Kd.R_drew)); exact HO216.out) hb); have n5_ := Aside0.mk (Kd.R_below (by (with_reducible repeat (first | apply Kd.R_alloc | apply Kd.R_drewN | apply Kd.R_drew)); exact HO219.out) hb); have n6_ := Aside0.mk (Kd.R_below (by (with_reducible repeat (first | apply Kd.R_alloc | apply Kd.R_drewN | apply Kd.R_drew)); exact HO224.out) hb); have n7_ := Aside0.mk (Kd.R_below (by (with_reducible repeat (first | apply Kd.R_alloc | apply Kd.R_drewN | apply Kd.R_drew)); exact HO227.out) hb); have n8_ := Aside0.mk (Kd.R_below (by (with_reducible repeat (first | apply Kd.R_alloc | apply Kd.R_drewN | apply Kd.R_drew)); exact HO233.out) hb); have n9_ := Aside0.mk (Kd.R_lower ho0 (below_size (by repeat (first | (with_reducible first | exact HB.out | apply below_alloc | apply pw_below_drewN | apply below_drew1) | exact HB.out)))); have n10_ := Aside0.mk (below_step (by repeat (first | (with_reducible first | exact HB.out | apply below_alloc | apply pw_below_drewN | apply below_drew1) | exact HB.out)) hb); clear HO197; clear HO200; clear HO208; clear HO211; clear HO216; clear HO219; clear HO224; clear HO227; clear HO233; clear HB; have HO197 := n0_; have HO200 := n1_; have HO208 := n2_; have HO211 := n3_; have HO216 := n4_; have HO219 := n5_; have HO224 := n6_; have HO227 := n7_; have HO233 := n8_; have HO238 := n9_; have HB := n10_; clear n0_ n1_ n2_ n3_ n4_ n5_ n6_ n7_ n8_ n9_ n10_; (try clear hb); (try clear hb2); (try clear hk); (try clear hi); (try clear ho0)) | ((with_reducible refine gate_callee (f := 27) rfl ?_); refine goesL_ (some 38) rfl rfl Try.func27 (by kernel_rfl) rfl #[.int .i64 1000, .int .i64 1500] rfl (by (try simp only [List.map_toArray, List.map_cons, List.map_nil]); first | done | rfl | (simp only [List.length_drop, List.length_take]; rfl)) ?_; (with_reducible refine (swarflaw08_to.calls 1000 1500 t239 t240 _ A10.out).mono ?_); rintro e w44 ⟨rfl, hb⟩; refine ⟨_, rfl, ?_⟩; have n0_ := Aside0.mk (Kd.R_below (by (with_reducible repeat (first | apply Kd.R_alloc | apply Kd.R_drewN | apply Kd.R_drew)); exact HO197.out) hb); have n1_ := Aside0.mk (Kd.R_below (by (with_reducible repeat (first | apply Kd.R_alloc | apply Kd.R_drewN | apply Kd.R_drew)); exact HO200.out) hb); have n2_ := Aside0.mk (Kd.R_below (by (with_reducible repeat (first | apply Kd.R_alloc | apply Kd.R_drewN | apply Kd.R_drew)); exact HO208.out) hb); have n3_ := Aside0.mk (Kd.R_below (by (with_reducible repeat (first | apply Kd.R_alloc | apply Kd.R_drewN | apply Kd.R_drew)); exact HO211.out) hb); have n4_ := Aside0.mk (Kd.R_below (by (with_reducible repeat (first | apply Kd.R_alloc | apply Kd.R_drewN | apply Kd.R_drew)); exact HO216.out) hb); have n5_ := Aside0.mk (Kd.R_below (by (with_reducible repeat (first | apply Kd.R_alloc | apply Kd.R_drewN | apply Kd.R_drew)); exact HO219.out) hb); have n6_ := Aside0.mk (Kd.R_below (by (with_reducible repeat (first | apply Kd.R_alloc | apply Kd.R_drewN | apply Kd.R_drew)); exact HO224.out) hb); have n7_ := Aside0.mk (Kd.R_below (by (with_reducible repeat (first | apply Kd.R_alloc | apply Kd.R_drewN | apply Kd.R_drew)); exact HO227.out) hb); have n8_ := Aside0.mk (Kd.R_below (by (with_reducible repeat (first | apply Kd.R_alloc | apply Kd.R_drewN | apply Kd.R_drew)); exact HO233.out) hb); have n9_ := Aside0.mk (Kd.R_below (by (with_reducible repeat (first | apply Kd.R_alloc | apply Kd.R_drewN | apply Kd.R_drew)); exact HO238.out) hb); have n10_ := Aside0.mk (below_step (by repeat (first | (with_reducible first | exact HB.out | apply below_alloc | apply pw_below_drewN | apply below_drew1) | exact HB.out)) hb); clear HO197; clear HO200; clear HO208; clear HO211; clear HO216; clear HO219; clear HO224; clear HO227; clear HO233; clear HO238; clear HB; have HO197 := n0_; have HO200 := n1_; have HO208 := n2_; have HO211 := n3_; have HO216 := n4_; have HO219 := n5_; have HO224 := n6_; have HO227 := n7_; have HO233 := n8_; have HO238 := n9_; have HB := n10_; clear n0_ n1_ n2_ n3_ n4_ n5_ n6_ n7_ n8_ n9_ n10_; (try clear hb); (try clear hb2); (try clear hk); (try clear hi); obtain ⟨Ao45, co45, eo45⟩ := Kd.R_slice HO238.out; subst eo45) | ((with_reducible refine gate_callee (f := 23) rfl ?_); refine goesL_ (some 39) rfl rfl Try.func23 (by kernel_rfl) rfl #[.slice Ao45 t236.length co45, .int .i64 12, .agg #[.int .i64 t239, .int .i64 t240], .int .i64 900] rfl (by (try simp only [List.map_toArray, List.map_cons, List.map_nil]); first | done | rfl | (simp only [List.length_drop, List.length_take]; rfl)) ?_; (with_reducible refine (pay_Value.calls k _ _ t236 12 t239 t240 900 t241 t242 t243 _ ?side1 ?side2 A11.out).mono ?_); (case side1 => repeat (first | exact (Kd.R_reads' HO238.out).2.2 | (with_reducible refine Kd.C_alloc ?_ _) | (with_reducible refine Kd.C_drewN ?_ _) | (with_reducible refine Kd.C_drew ?_))); (case side2 => exact (Kd.R_reads' HO238.out).2.1); rintro e w46 ⟨rfl, hb⟩; refine ⟨_, rfl, ?_⟩; have n0_ := Aside0.mk (Kd.R_below (by (with_reducible repeat (first | apply Kd.R_alloc | apply Kd.R_drewN | apply Kd.R_drew)); exact HO197.out) hb); have n1_ := Aside0.mk (Kd.R_below (by (with_reducible repeat (first | apply Kd.R_alloc | apply Kd.R_drewN | apply Kd.R_drew)); exact HO200.out) hb); have n2_ := Aside0.mk (Kd.R_below (by (with_reducible repeat (first | apply Kd.R_alloc | apply Kd.R_drewN | apply Kd.R_drew)); exact HO208.out) hb); have n3_ := Aside0.mk (Kd.R_below (by (with_reducible repeat (first | apply Kd.R_alloc | apply Kd.R_drewN | apply Kd.R_drew)); exact HO211.out) hb); have n4_ := Aside0.mk (Kd.R_below (by (with_reducible repeat (first | apply Kd.R_alloc | apply Kd.R_drewN | apply Kd.R_drew)); exact HO216.out) hb); have n5_ := Aside0.mk (Kd.R_below (by (with_reducible repeat (first | apply Kd.R_alloc | apply Kd.R_drewN | apply Kd.R_drew)); exact HO219.out) hb); have n6_ := Aside0.mk (Kd.R_below (by (with_reducible repeat (first | apply Kd.R_alloc | apply Kd.R_drewN | apply Kd.R_drew)); exact HO224.out) hb); have n7_ := Aside0.mk (Kd.R_below (by (with_reducible repeat (first | apply Kd.R_alloc | apply Kd.R_drewN | apply Kd.R_drew)); exact HO227.out) hb); have n8_ := Aside0.mk (Kd.R_below (by (with_reducible repeat (first | apply Kd.R_alloc | apply Kd.R_drewN | apply Kd.R_drew)); exact HO233.out) hb); have n9_ := Aside0.mk (Kd.R_below (by (with_reducible repeat (first | apply Kd.R_alloc | apply Kd.R_drewN | apply Kd.R_drew)); exact HO238.out) hb); have n10_ := Aside0.mk (below_step (by repeat (first | (with_reducible first | exact HB.out | apply below_alloc | apply pw_below_drewN | apply below_drew1) | exact HB.out)) hb); clear HO197; clear HO200; clear HO208; clear HO211; clear HO216; clear HO219; clear HO224; clear HO227; clear HO233; clear HO238; clear HB; have HO197 := n0_; have HO200 := n1_; have HO208 := n2_; have HO211 := n3_; have HO216 := n4_; have HO219 := n5_; have HO224 := n6_; have HO227 := n7_; have HO233 := n8_; have HO238 := n9_; have HB := n10_; clear n0_ n1_ n2_ n3_ n4_ n5_ n6_ n7_ n8_ n9_ n10_; (try clear hb); (try clear hb2); (try clear hk); (try clear hi)) | ((with_reducible refine gate_dst (N := 11) rfl ?_); (try (refine gate_guard (by rfl) ?_; dsimp only)); refine box_event ?hg (N := 11) ?hd (cs := #[.int .i64 0, .int .i64 0]) (t := 24) ?hr ?_; (case hd => rfl); (case hg => rfl); (case hr => first | (go_simp; done) | (go_simp; rfl)); intro gb244 hg w47 hbox hb; have n0_ := Aside0.mk (Kd.R_below (by (with_reducible repeat (first | apply Kd.R_alloc | apply Kd.R_drewN | apply Kd.R_drew)); exact HO197.out) hb); have n1_ := Aside0.mk (Kd.R_below (by (with_reducible repeat (first | apply Kd.R_alloc | apply Kd.R_drewN | apply Kd.R_drew)); exact HO200.out) hb); have n2_ := Aside0.mk (Kd.R_below (by (with_reducible repeat (first | apply Kd.R_alloc | apply Kd.R_drewN | apply Kd.R_drew)); exact HO208.out) hb); have n3_ := Aside0.mk (Kd.R_below (by (with_reducible repeat (first | apply Kd.R_alloc | apply Kd.R_drewN | apply Kd.R_drew)); exact HO211.out) hb); have n4_ := Aside0.mk (Kd.R_below (by (with_reducible repeat (first | apply Kd.R_alloc | apply Kd.R_drewN | apply Kd.R_drew)); exact HO216.out) hb); have n5_ := Aside0.mk (Kd.R_below (by (with_reducible repeat (first | apply Kd.R_alloc | apply Kd.R_drewN | apply Kd.R_drew)); exact HO219.out) hb); have n6_ := Aside0.mk (Kd.R_below (by (with_reducible repeat (first | apply Kd.R_alloc | apply Kd.R_drewN | apply Kd.R_drew)); exact HO224.out) hb); have n7_ := Aside0.mk (Kd.R_below (Kd.R_elderB (by (with_reducible repeat (first | apply Kd.R_alloc | apply Kd.R_drewN | apply Kd.R_drew)); exact HO227.out) gb244 (Nat.le_of_eq hg.symm)) hb); have n8_ := Aside0.mk (Kd.R_below (by (with_reducible repeat (first | apply Kd.R_alloc | apply Kd.R_drewN | apply Kd.R_drew)); exact HO233.out) hb); have n9_ := Aside0.mk (Kd.R_below (by (with_reducible repeat (first | apply Kd.R_alloc | apply Kd.R_drewN | apply Kd.R_drew)); exact HO238.out) hb); have n10_ := Aside0.mk (below_step (by repeat (first | (with_reducible first | exact HB.out | apply below_alloc | apply pw_below_drewN | apply below_drew1) | exact HB.out)) hb); have n11_ := Aside0.mk (hbox); have n12_ := Aside0.mk ((by rw [hg]; exact (below_size (by repeat (first | (with_reducible first | exact HB.out | apply below_alloc | apply pw_below_drewN | apply below_drew1) | exact HB.out))) : w.heap.size ≤ gb244)); have n13_ := Aside0.mk ((by rw [hg]; exact (below_size (by repeat (first | (with_reducible first | exact HB.out | apply below_alloc | apply pw_below_drewN | apply below_drew1) | exact HB.out))) : w.heap.size ≤ gb244)); clear HO197; clear HO200; clear HO208; clear HO211; clear HO216; clear HO219; clear HO224; clear HO227; clear HO233; clear HO238; clear HB; have HO197 := n0_; have HO200 := n1_; have HO208 := n2_; have HO211 := n3_; have HO216 := n4_; have HO219 := n5_; have HO224 := n6_; have HO227 := n7_; have HO233 := n8_; have HO238 := n9_; have HB := n10_; have BK244 := n11_; have GW244 := n12_; have GE244 := n13_; clear n0_ n1_ n2_ n3_ n4_ n5_ n6_ n7_ n8_ n9_ n10_ n11_ n12_ n13_; clear hb hbox hg; have hcz48_0 : w47.cell? ⟨gb244, 0, none⟩ = some (.int .i64 0) := (blk_cell BK244.out 0).trans rfl; have hcz48_1 : w47.cell? ⟨gb244, 1, none⟩ = some (.int .i64 0) := (blk_cell BK244.out 1).trans rfl; have hfz48_0 := blk_frozen BK244.out 0; have hfz48_1 := blk_frozen BK244.out 1))
                        have n0_ : Aside0 (Kd.R k84 84 ((w47.setCell ⟨gb244, 0, none⟩ (.int .i64 t241)).setCell ⟨gb244, 1, none⟩ (.int .i64 t242)) w.heap.size (fun k_ => some k_ ≠ (.slice Ao31 t206.length co31 : Value).ownBlock) (.slice Ao27 t195.length co27) t195) := ⟨by (with_reducible repeat (first | apply Kd.R_alloc | apply Kd.R_drewN | apply Kd.R_drew)); exact Kd.R_mono (Kd.R_far (p := ⟨gb244, 1, none⟩) (Kd.R_far (p := ⟨gb244, 0, none⟩) (Kd.R_types HO197.out BK244.out (by decide)) (fun _ hk => hk.2) (.int .i64 t241)) (fun _ hk => hk.2) (.int .i64 t242)) (fun _ hk => hk.1.2)⟩
                        have n1_ : Aside0 (Kd.R k61 61 ((w47.setCell ⟨gb244, 0, none⟩ (.int .i64 t241)).setCell ⟨gb244, 1, none⟩ (.int .i64 t242)) w.heap.size (fun k_ => some k_ ≠ (.slice Ao32 t209.length co32 : Value).ownBlock) (.slice Ao28 t198.length co28) t198) := ⟨by (with_reducible repeat (first | apply Kd.R_alloc | apply Kd.R_drewN | apply Kd.R_drew)); exact Kd.R_mono (Kd.R_far (p := ⟨gb244, 1, none⟩) (Kd.R_far (p := ⟨gb244, 0, none⟩) (Kd.R_types HO200.out BK244.out (by decide)) (fun _ hk => hk.2) (.int .i64 t241)) (fun _ hk => hk.2) (.int .i64 t242)) (fun _ hk => hk.1.2)⟩
                        have n2_ : Aside0 (Kd.R k84 84 ((w47.setCell ⟨gb244, 0, none⟩ (.int .i64 t241)).setCell ⟨gb244, 1, none⟩ (.int .i64 t242)) w.heap.size (fun k_ => some k_ ≠ (.slice Ao27 t195.length co27 : Value).ownBlock) (.slice Ao31 t206.length co31) t206) := ⟨by (with_reducible repeat (first | apply Kd.R_alloc | apply Kd.R_drewN | apply Kd.R_drew)); exact Kd.R_mono (Kd.R_far (p := ⟨gb244, 1, none⟩) (Kd.R_far (p := ⟨gb244, 0, none⟩) (Kd.R_types HO208.out BK244.out (by decide)) (fun _ hk => hk.2) (.int .i64 t241)) (fun _ hk => hk.2) (.int .i64 t242)) (fun _ hk => hk.1.2)⟩
                        have n3_ : Aside0 (Kd.R k61 61 ((w47.setCell ⟨gb244, 0, none⟩ (.int .i64 t241)).setCell ⟨gb244, 1, none⟩ (.int .i64 t242)) w.heap.size (fun k_ => some k_ ≠ (.slice Ao28 t198.length co28 : Value).ownBlock) (.slice Ao32 t209.length co32) t209) := ⟨by (with_reducible repeat (first | apply Kd.R_alloc | apply Kd.R_drewN | apply Kd.R_drew)); exact Kd.R_mono (Kd.R_far (p := ⟨gb244, 1, none⟩) (Kd.R_far (p := ⟨gb244, 0, none⟩) (Kd.R_types HO211.out BK244.out (by decide)) (fun _ hk => hk.2) (.int .i64 t241)) (fun _ hk => hk.2) (.int .i64 t242)) (fun _ hk => hk.1.2)⟩
                        have n4_ : Aside0 (Kd.R k77 77 ((w47.setCell ⟨gb244, 0, none⟩ (.int .i64 t241)).setCell ⟨gb244, 1, none⟩ (.int .i64 t242)) w.heap.size (fun _ => True) (.slice Ao37 t214.length co37) t214) := ⟨by (with_reducible repeat (first | apply Kd.R_alloc | apply Kd.R_drewN | apply Kd.R_drew)); exact Kd.R_mono (Kd.R_far (p := ⟨gb244, 1, none⟩) (Kd.R_far (p := ⟨gb244, 0, none⟩) (Kd.R_types HO216.out BK244.out (by decide)) (fun _ hk => hk.2) (.int .i64 t241)) (fun _ hk => hk.2) (.int .i64 t242)) (fun _ hk => trivial)⟩
                        have n5_ : Aside0 (Kd.R Kd.string 9 ((w47.setCell ⟨gb244, 0, none⟩ (.int .i64 t241)).setCell ⟨gb244, 1, none⟩ (.int .i64 t242)) w.heap.size (fun _ => True) (.slice Ao38 y217.length co38) y217) := ⟨by (with_reducible repeat (first | apply Kd.R_alloc | apply Kd.R_drewN | apply Kd.R_drew)); exact Kd.R_mono (Kd.R_far (p := ⟨gb244, 1, none⟩) (Kd.R_far (p := ⟨gb244, 0, none⟩) (Kd.R_types HO219.out BK244.out (by decide)) (fun _ hk => hk.2) (.int .i64 t241)) (fun _ hk => hk.2) (.int .i64 t242)) (fun _ hk => trivial)⟩
                        have n6_ : Aside0 (Kd.R (Kd.int .i64) 3 ((w47.setCell ⟨gb244, 0, none⟩ (.int .i64 t241)).setCell ⟨gb244, 1, none⟩ (.int .i64 t242)) w.heap.size (fun k_ => some k_ ≠ (v232 : Value).ownBlock) v223 t221) := ⟨by (with_reducible repeat (first | apply Kd.R_alloc | apply Kd.R_drewN | apply Kd.R_drew)); exact Kd.R_mono (Kd.R_far (p := ⟨gb244, 1, none⟩) (Kd.R_far (p := ⟨gb244, 0, none⟩) (Kd.R_types HO224.out BK244.out (by decide)) (fun _ hk => hk.2) (.int .i64 t241)) (fun _ hk => hk.2) (.int .i64 t242)) (fun _ hk => hk.1.2)⟩
                        have n7_ : Aside0 (Kd.R k24 24 ((w47.setCell ⟨gb244, 0, none⟩ (.int .i64 t241)).setCell ⟨gb244, 1, none⟩ (.int .i64 t242)) w.heap.size (fun k_ => k_ ≠ gb244) (.slice Ao41 t225.length co41) t225) := ⟨by (with_reducible repeat (first | apply Kd.R_alloc | apply Kd.R_drewN | apply Kd.R_drew)); exact Kd.R_mono (Kd.R_far (p := ⟨gb244, 1, none⟩) (Kd.R_far (p := ⟨gb244, 0, none⟩) (Kd.R_mono HO227.out (fun k_ hk => (⟨hk, hk.2⟩ : _ ∧ k_ ≠ gb244))) (fun _ hk => hk.2) (.int .i64 t241)) (fun _ hk => hk.2) (.int .i64 t242)) (fun _ hk => hk.1.2)⟩
                        have n8_ : Aside0 (Kd.R (Kd.int .i64) 3 ((w47.setCell ⟨gb244, 0, none⟩ (.int .i64 t241)).setCell ⟨gb244, 1, none⟩ (.int .i64 t242)) w.heap.size (fun k_ => some k_ ≠ (v223 : Value).ownBlock) v232 t231) := ⟨by (with_reducible repeat (first | apply Kd.R_alloc | apply Kd.R_drewN | apply Kd.R_drew)); exact Kd.R_mono (Kd.R_far (p := ⟨gb244, 1, none⟩) (Kd.R_far (p := ⟨gb244, 0, none⟩) (Kd.R_types HO233.out BK244.out (by decide)) (fun _ hk => hk.2) (.int .i64 t241)) (fun _ hk => hk.2) (.int .i64 t242)) (fun _ hk => hk.1.2)⟩
                        have n9_ : Aside0 (Kd.R k26 26 ((w47.setCell ⟨gb244, 0, none⟩ (.int .i64 t241)).setCell ⟨gb244, 1, none⟩ (.int .i64 t242)) w.heap.size (fun _ => True) (.slice Ao45 t236.length co45) t236) := ⟨by (with_reducible repeat (first | apply Kd.R_alloc | apply Kd.R_drewN | apply Kd.R_drew)); exact Kd.R_mono (Kd.R_far (p := ⟨gb244, 1, none⟩) (Kd.R_far (p := ⟨gb244, 0, none⟩) (Kd.R_types HO238.out BK244.out (by decide)) (fun _ hk => hk.2) (.int .i64 t241)) (fun _ hk => hk.2) (.int .i64 t242)) (fun _ hk => trivial)⟩
                        have n10_ : Aside0 (((w47.setCell ⟨gb244, 0, none⟩ (.int .i64 t241)).setCell ⟨gb244, 1, none⟩ (.int .i64 t242)).heap[gb244]? = some (.cells #[.int .i64 t241, .int .i64 t242] 24 (0, 0))) := ⟨by (with_reducible repeat (first | refine blk_drewN ?_ _ | refine blk_drew ?_ | refine blk_alloc ?_ _)); refine blk_put (cs := #[.int .i64 t241, .int .i64 0]) ?_ 1 _ rfl; (with_reducible repeat (first | refine blk_drewN ?_ _ | refine blk_drew ?_ | refine blk_alloc ?_ _)); refine blk_put (cs := #[.int .i64 0, .int .i64 0]) ?_ 0 _ rfl; (with_reducible repeat (first | refine blk_drewN ?_ _ | refine blk_drew ?_ | refine blk_alloc ?_ _)); exact BK244.out⟩
                        have n11_ : Aside0 (Below w.heap.size w ((w47.setCell ⟨gb244, 0, none⟩ (.int .i64 t241)).setCell ⟨gb244, 1, none⟩ (.int .i64 t242))) := ⟨by repeat (first | (with_reducible first | exact HB.out | apply below_alloc | apply pw_below_drewN | apply below_drew1 | refine below_set ?_ GE244.out) | exact HB.out)⟩
                        (try clear HO197)
                        (try clear HO200)
                        (try clear HO208)
                        (try clear HO211)
                        (try clear HO216)
                        (try clear HO219)
                        (try clear HO224)
                        (try clear HO227)
                        (try clear HO233)
                        (try clear HO238)
                        (try clear BK244)
                        (try clear HB)
                        generalize ((w47.setCell ⟨gb244, 0, none⟩ (.int .i64 t241)).setCell ⟨gb244, 1, none⟩ (.int .i64 t242)) = w49 at n0_ n1_ n2_ n3_ n4_ n5_ n6_ n7_ n8_ n9_ n10_ n11_ ⊢
                        have HO197 := n0_
                        have HO200 := n1_
                        have HO208 := n2_
                        have HO211 := n3_
                        have HO216 := n4_
                        have HO219 := n5_
                        have HO224 := n6_
                        have HO227 := n7_
                        have HO233 := n8_
                        have HO238 := n9_
                        have BK244 := n10_
                        have HB := n11_
                        clear n0_ n1_ n2_ n3_ n4_ n5_ n6_ n7_ n8_ n9_ n10_ n11_
                        have n0_ := Aside0.mk (Kd.R_drew HO197.out)
                        have n1_ := Aside0.mk (Kd.R_drew HO200.out)
                        have n2_ := Aside0.mk (Kd.R_drew HO208.out)
                        have n3_ := Aside0.mk (Kd.R_drew HO211.out)
                        have n4_ := Aside0.mk (Kd.R_drew HO216.out)
                        have n5_ := Aside0.mk (Kd.R_drew HO219.out)
                        have n6_ := Aside0.mk (Kd.R_drew HO224.out)
                        have n7_ := Aside0.mk (Kd.R_drew HO227.out)
                        have n8_ := Aside0.mk (Kd.R_drew HO233.out)
                        have n9_ := Aside0.mk (Kd.R_drew HO238.out)
                        have n10_ := Aside0.mk (blk_drew BK244.out)
                        have n11_ := Aside0.mk (below_drew1 HB.out)
                        clear HO197
                        clear HO200
                        clear HO208
                        clear HO211
                        clear HO216
                        clear HO219
                        clear HO224
                        clear HO227
                        clear HO233
                        clear HO238
                        clear BK244
                        clear HB
                        have HO197 := n0_
                        have HO200 := n1_
                        have HO208 := n2_
                        have HO211 := n3_
                        have HO216 := n4_
                        have HO219 := n5_
                        have HO224 := n6_
                        have HO227 := n7_
                        have HO233 := n8_
                        have HO238 := n9_
                        have BK244 := n10_
                        have HB := n11_
                        clear n0_ n1_ n2_ n3_ n4_ n5_ n6_ n7_ n8_ n9_ n10_ n11_
                        refine start_ (n := 50) (S := fun w' => w'.cell? ⟨gb244, 0, none⟩ = some (.int .i64 t241) ∧ w'.cell? ⟨gb244, 1, none⟩ = some (.int .i64 t242)) (ds := []) #[false, false, false, false, false, false, false, false, false, false, false, false, false, false, false, false, false, false, false, false, false, false, false, false, false, false, false, false, false, false, false, false, false, false, false, false, false, false, false, false, false, false, false, false, false, false, false, false, false, false] (by kernel_rfl) rfl rfl ⟨(blk_cell BK244.out 0).trans rfl, (blk_cell BK244.out 1).trans rfl⟩ (fun hHeld => ?_); refine with_tabW swarflaw08_awake.tab6 swarflaw08_awake.bits6 (fun HT_ HW_ => ?_)
                        generalize w49.drew = w50 at HO197 HO200 HO208 HO211 HO216 HO219 HO224 HO227 HO233 HO238 BK244 HB hHeld ⊢
                        refine pure_ (i := 0) (N := some 42) (v := ?_) (a' := ?_) #[true, false, false, false, false, false, false, false, false, false, false, false, false, false, false, false, false, false, false, false, false, false, false, false, false, false, false, false, false, false, false, false, false, false, false, false, false, false, false, false, false, false, false, false, false, false, false, false, false, false] rfl rfl (any_of HT_.out (by kernel_rfl)) (fun _ _ _ h => h) (Or.inl ⟨by rfl, ?_⟩) ?_ ?_
                        rotate_left
                        · intro w'
                          go_simp
                          with_reducible rfl
                        rotate_left
                        · simp only [Act.put, List.setIfInBounds_toArray, List.set_cons_zero, List.set_cons_succ, i64_w, i32_w]
                          rfl
                        refine pure_ (i := 1) (N := some 43) (v := ?_) (a' := ?_) #[true, true, false, false, false, false, false, false, false, false, false, false, false, false, false, false, false, false, false, false, false, false, false, false, false, false, false, false, false, false, false, false, false, false, false, false, false, false, false, false, false, false, false, false, false, false, false, false, false, false] rfl rfl (any_of HT_.out (by kernel_rfl)) (fun _ _ _ h => h) (Or.inl ⟨by rfl, ?_⟩) ?_ ?_
                        rotate_left
                        · intro w'
                          go_simp
                          with_reducible rfl
                        rotate_left
                        · simp only [Act.put, List.setIfInBounds_toArray, List.set_cons_zero, List.set_cons_succ, i64_w, i32_w]
                          rfl
                        refine pure_ (i := 2) (N := some 44) (v := ?_) (a' := ?_) #[true, true, true, false, false, false, false, false, false, false, false, false, false, false, false, false, false, false, false, false, false, false, false, false, false, false, false, false, false, false, false, false, false, false, false, false, false, false, false, false, false, false, false, false, false, false, false, false, false, false] rfl rfl (any_of HT_.out (by kernel_rfl)) (fun _ _ _ h => h) (Or.inl ⟨by rfl, ?_⟩) ?_ ?_
                        rotate_left
                        · intro w'
                          go_simp
                          with_reducible rfl
                        rotate_left
                        · simp only [Act.put, List.setIfInBounds_toArray, List.set_cons_zero, List.set_cons_succ, i64_w, i32_w]
                          rfl
                        refine pure_ (i := 3) (N := some 45) (v := ?_) (a' := ?_) #[true, true, true, true, false, false, false, false, false, false, false, false, false, false, false, false, false, false, false, false, false, false, false, false, false, false, false, false, false, false, false, false, false, false, false, false, false, false, false, false, false, false, false, false, false, false, false, false, false, false] rfl rfl (any_of HT_.out (by kernel_rfl)) (fun _ _ _ h => h) (Or.inl ⟨by rfl, ?_⟩) ?_ ?_
                        rotate_left
                        · intro w'
                          go_simp
                          with_reducible rfl
                        rotate_left
                        · simp only [Act.put, List.setIfInBounds_toArray, List.set_cons_zero, List.set_cons_succ, i64_w, i32_w]
                          rfl
                        refine pure_ (i := 4) (N := some 46) (v := ?_) (a' := ?_) #[true, true, true, true, true, false, false, false, false, false, false, false, false, false, false, false, false, false, false, false, false, false, false, false, false, false, false, false, false, false, false, false, false, false, false, false, false, false, false, false, false, false, false, false, false, false, false, false, false, false] rfl rfl (any_of HT_.out (by kernel_rfl)) (fun _ _ _ h => h) (Or.inl ⟨by rfl, ?_⟩) ?_ ?_
                        rotate_left
                        · intro w'
                          go_simp
                          with_reducible rfl
                        rotate_left
                        · simp only [Act.put, List.setIfInBounds_toArray, List.set_cons_zero, List.set_cons_succ, i64_w, i32_w]
                          rfl
                        refine pure_ (i := 5) (N := some 47) (v := ?_) (a' := ?_) #[true, true, true, true, true, true, false, false, false, false, false, false, false, false, false, false, false, false, false, false, false, false, false, false, false, false, false, false, false, false, false, false, false, false, false, false, false, false, false, false, false, false, false, false, false, false, false, false, false, false] rfl rfl (any_of HT_.out (by kernel_rfl)) (fun _ _ _ h => h) (Or.inl ⟨by rfl, ?_⟩) ?_ ?_
                        rotate_left
                        · intro w'
                          go_simp
                          with_reducible rfl
                        rotate_left
                        · simp only [Act.put, List.setIfInBounds_toArray, List.set_cons_zero, List.set_cons_succ, i64_w, i32_w]
                          rfl
                        refine pure_ (i := 6) (N := some 48) (v := ?_) (a' := ?_) #[true, true, true, true, true, true, true, false, false, false, false, false, false, false, false, false, false, false, false, false, false, false, false, false, false, false, false, false, false, false, false, false, false, false, false, false, false, false, false, false, false, false, false, false, false, false, false, false, false, false] rfl rfl (any_of HT_.out (by kernel_rfl)) (fun _ _ _ h => h) (Or.inl ⟨by rfl, ?_⟩) ?_ ?_
                        rotate_left
                        · intro w'
                          go_simp
                          with_reducible rfl
                        rotate_left
                        · simp only [Act.put, List.setIfInBounds_toArray, List.set_cons_zero, List.set_cons_succ, i64_w, i32_w]
                          rfl
                        refine pure_ (i := 7) (N := some 49) (v := ?_) (a' := ?_) #[true, true, true, true, true, true, true, true, false, false, false, false, false, false, false, false, false, false, false, false, false, false, false, false, false, false, false, false, false, false, false, false, false, false, false, false, false, false, false, false, false, false, false, false, false, false, false, false, false, false] rfl rfl (any_of HT_.out (by kernel_rfl)) (fun _ _ _ h => h) (Or.inl ⟨by rfl, ?_⟩) ?_ ?_
                        rotate_left
                        · intro w'
                          go_simp
                          with_reducible rfl
                        rotate_left
                        · simp only [Act.put, List.setIfInBounds_toArray, List.set_cons_zero, List.set_cons_succ, i64_w, i32_w]
                          rfl
                        refine pure_ (i := 8) (N := some 50) (v := ?_) (a' := ?_) #[true, true, true, true, true, true, true, true, true, false, false, false, false, false, false, false, false, false, false, false, false, false, false, false, false, false, false, false, false, false, false, false, false, false, false, false, false, false, false, false, false, false, false, false, false, false, false, false, false, false] rfl rfl (any_of HT_.out (by kernel_rfl)) (fun _ _ _ h => h) (Or.inl ⟨by rfl, ?_⟩) ?_ ?_
                        rotate_left
                        · intro w'
                          go_simp
                          with_reducible rfl
                        rotate_left
                        · simp only [Act.put, List.setIfInBounds_toArray, List.set_cons_zero, List.set_cons_succ, i64_w, i32_w]
                          rfl
                        refine pure_ (i := 9) (N := some 51) (v := ?_) (a' := ?_) #[true, true, true, true, true, true, true, true, true, true, false, false, false, false, false, false, false, false, false, false, false, false, false, false, false, false, false, false, false, false, false, false, false, false, false, false, false, false, false, false, false, false, false, false, false, false, false, false, false, false] rfl rfl (any_of HT_.out (by kernel_rfl)) (fun _ _ _ h => h) (Or.inl ⟨by rfl, ?_⟩) ?_ ?_
                        rotate_left
                        · intro w'
                          go_simp
                          with_reducible rfl
                        rotate_left
                        · simp only [Act.put, List.setIfInBounds_toArray, List.set_cons_zero, List.set_cons_succ, i64_w, i32_w]
                          rfl
                        refine pure_ (i := 10) (N := some 52) (v := ?_) (a' := ?_) #[true, true, true, true, true, true, true, true, true, true, true, false, false, false, false, false, false, false, false, false, false, false, false, false, false, false, false, false, false, false, false, false, false, false, false, false, false, false, false, false, false, false, false, false, false, false, false, false, false, false] rfl rfl (any_of HT_.out (by kernel_rfl)) (fun _ _ _ h => h) (Or.inl ⟨by rfl, ?_⟩) ?_ ?_
                        rotate_left
                        · intro w'
                          go_simp
                          with_reducible rfl
                        rotate_left
                        · simp only [Act.put, List.setIfInBounds_toArray, List.set_cons_zero, List.set_cons_succ, i64_w, i32_w]
                          rfl
                        refine pure_ (i := 11) (N := some 53) (v := ?_) (a' := ?_) #[true, true, true, true, true, true, true, true, true, true, true, true, false, false, false, false, false, false, false, false, false, false, false, false, false, false, false, false, false, false, false, false, false, false, false, false, false, false, false, false, false, false, false, false, false, false, false, false, false, false] rfl rfl (any_of HT_.out (by kernel_rfl)) (fun _ _ _ h => h) (Or.inl ⟨by rfl, ?_⟩) ?_ ?_
                        rotate_left
                        · intro w'
                          go_simp
                          with_reducible rfl
                        rotate_left
                        · simp only [Act.put, List.setIfInBounds_toArray, List.set_cons_zero, List.set_cons_succ, i64_w, i32_w]
                          rfl
                        refine pure_ (i := 12) (N := some 54) (v := ?_) (a' := ?_) #[true, true, true, true, true, true, true, true, true, true, true, true, true, false, false, false, false, false, false, false, false, false, false, false, false, false, false, false, false, false, false, false, false, false, false, false, false, false, false, false, false, false, false, false, false, false, false, false, false, false] rfl rfl (any_of HT_.out (by kernel_rfl)) (fun _ _ _ h => h) (Or.inl ⟨by rfl, ?_⟩) ?_ ?_
                        rotate_left
                        · intro w'
                          go_simp
                          with_reducible rfl
                        rotate_left
                        · simp only [Act.put, List.setIfInBounds_toArray, List.set_cons_zero, List.set_cons_succ, i64_w, i32_w]
                          rfl
                        refine pure_ (i := 13) (N := some 55) (v := ?_) (a' := ?_) #[true, true, true, true, true, true, true, true, true, true, true, true, true, true, false, false, false, false, false, false, false, false, false, false, false, false, false, false, false, false, false, false, false, false, false, false, false, false, false, false, false, false, false, false, false, false, false, false, false, false] rfl rfl (any_of HT_.out (by kernel_rfl)) (fun _ _ _ h => h) (Or.inl ⟨by rfl, ?_⟩) ?_ ?_
                        rotate_left
                        · intro w'
                          go_simp
                          with_reducible rfl
                        rotate_left
                        · simp only [Act.put, List.setIfInBounds_toArray, List.set_cons_zero, List.set_cons_succ, i64_w, i32_w]
                          rfl
                        refine pure_ (i := 14) (N := some 56) (v := ?_) (a' := ?_) #[true, true, true, true, true, true, true, true, true, true, true, true, true, true, true, false, false, false, false, false, false, false, false, false, false, false, false, false, false, false, false, false, false, false, false, false, false, false, false, false, false, false, false, false, false, false, false, false, false, false] rfl rfl (any_of HT_.out (by kernel_rfl)) (fun _ _ _ h => h) (Or.inl ⟨by rfl, ?_⟩) ?_ ?_
                        rotate_left
                        · intro w'
                          go_simp
                          with_reducible rfl
                        rotate_left
                        · simp only [Act.put, List.setIfInBounds_toArray, List.set_cons_zero, List.set_cons_succ, i64_w, i32_w]
                          rfl
                        refine pure_ (i := 15) (N := some 57) (v := ?_) (a' := ?_) #[true, true, true, true, true, true, true, true, true, true, true, true, true, true, true, true, false, false, false, false, false, false, false, false, false, false, false, false, false, false, false, false, false, false, false, false, false, false, false, false, false, false, false, false, false, false, false, false, false, false] rfl rfl (any_of HT_.out (by kernel_rfl)) (fun _ _ _ h => h) (Or.inl ⟨by rfl, ?_⟩) ?_ ?_
                        rotate_left
                        · intro w'
                          go_simp
                          with_reducible rfl
                        rotate_left
                        · simp only [Act.put, List.setIfInBounds_toArray, List.set_cons_zero, List.set_cons_succ, i64_w, i32_w]
                          rfl
                        refine pure_ (i := 16) (N := some 58) (v := ?_) (a' := ?_) #[true, true, true, true, true, true, true, true, true, true, true, true, true, true, true, true, true, false, false, false, false, false, false, false, false, false, false, false, false, false, false, false, false, false, false, false, false, false, false, false, false, false, false, false, false, false, false, false, false, false] rfl rfl (any_of HT_.out (by kernel_rfl)) (fun _ _ _ h => h) (Or.inl ⟨by rfl, ?_⟩) ?_ ?_
                        rotate_left
                        · intro w'
                          go_simp
                          with_reducible rfl
                        rotate_left
                        · simp only [Act.put, List.setIfInBounds_toArray, List.set_cons_zero, List.set_cons_succ, i64_w, i32_w]
                          rfl
                        refine pure_ (i := 17) (N := some 59) (v := ?_) (a' := ?_) #[true, true, true, true, true, true, true, true, true, true, true, true, true, true, true, true, true, true, false, false, false, false, false, false, false, false, false, false, false, false, false, false, false, false, false, false, false, false, false, false, false, false, false, false, false, false, false, false, false, false] rfl rfl (any_of HT_.out (by kernel_rfl)) (fun _ _ _ h => h) (Or.inl ⟨by rfl, ?_⟩) ?_ ?_
                        rotate_left
                        · intro w'
                          go_simp
                          with_reducible rfl
                        rotate_left
                        · simp only [Act.put, List.setIfInBounds_toArray, List.set_cons_zero, List.set_cons_succ, i64_w, i32_w]
                          rfl
                        refine pure_ (i := 18) (N := some 60) (v := ?_) (a' := ?_) #[true, true, true, true, true, true, true, true, true, true, true, true, true, true, true, true, true, true, true, false, false, false, false, false, false, false, false, false, false, false, false, false, false, false, false, false, false, false, false, false, false, false, false, false, false, false, false, false, false, false] rfl rfl (any_of HT_.out (by kernel_rfl)) (fun _ _ _ h => h) (Or.inl ⟨by rfl, ?_⟩) ?_ ?_
                        rotate_left
                        · intro w'
                          go_simp
                          with_reducible rfl
                        rotate_left
                        · simp only [Act.put, List.setIfInBounds_toArray, List.set_cons_zero, List.set_cons_succ, i64_w, i32_w]
                          rfl
                        refine pure_ (i := 19) (N := some 61) (v := ?_) (a' := ?_) #[true, true, true, true, true, true, true, true, true, true, true, true, true, true, true, true, true, true, true, true, false, false, false, false, false, false, false, false, false, false, false, false, false, false, false, false, false, false, false, false, false, false, false, false, false, false, false, false, false, false] rfl rfl (any_of HT_.out (by kernel_rfl)) (fun _ _ _ h => h) (Or.inl ⟨by rfl, ?_⟩) ?_ ?_
                        rotate_left
                        · intro w'
                          go_simp
                          with_reducible rfl
                        rotate_left
                        · simp only [Act.put, List.setIfInBounds_toArray, List.set_cons_zero, List.set_cons_succ, i64_w, i32_w]
                          rfl
                        refine pure_ (i := 20) (N := some 62) (v := ?_) (a' := ?_) #[true, true, true, true, true, true, true, true, true, true, true, true, true, true, true, true, true, true, true, true, true, false, false, false, false, false, false, false, false, false, false, false, false, false, false, false, false, false, false, false, false, false, false, false, false, false, false, false, false, false] rfl rfl (any_of HT_.out (by kernel_rfl)) (fun _ _ _ h => h) (Or.inl ⟨by rfl, ?_⟩) ?_ ?_
                        rotate_left
                        · intro w'
                          go_simp
                          with_reducible rfl
                        rotate_left
                        · simp only [Act.put, List.setIfInBounds_toArray, List.set_cons_zero, List.set_cons_succ, i64_w, i32_w]
                          rfl
                        refine pure_ (i := 21) (N := some 63) (v := ?_) (a' := ?_) #[true, true, true, true, true, true, true, true, true, true, true, true, true, true, true, true, true, true, true, true, true, true, false, false, false, false, false, false, false, false, false, false, false, false, false, false, false, false, false, false, false, false, false, false, false, false, false, false, false, false] rfl rfl (any_of HT_.out (by kernel_rfl)) (fun _ _ _ h => h) (Or.inl ⟨by rfl, ?_⟩) ?_ ?_
                        rotate_left
                        · intro w'
                          go_simp
                          with_reducible rfl
                        rotate_left
                        · simp only [Act.put, List.setIfInBounds_toArray, List.set_cons_zero, List.set_cons_succ, i64_w, i32_w]
                          rfl
                        refine pure_ (i := 22) (N := some 64) (v := ?_) (a' := ?_) #[true, true, true, true, true, true, true, true, true, true, true, true, true, true, true, true, true, true, true, true, true, true, true, false, false, false, false, false, false, false, false, false, false, false, false, false, false, false, false, false, false, false, false, false, false, false, false, false, false, false] rfl rfl (any_of HT_.out (by kernel_rfl)) (fun _ _ _ h => h) (Or.inl ⟨by rfl, ?_⟩) ?_ ?_
                        rotate_left
                        · intro w'
                          go_simp
                          with_reducible rfl
                        rotate_left
                        · simp only [Act.put, List.setIfInBounds_toArray, List.set_cons_zero, List.set_cons_succ, i64_w, i32_w]
                          rfl
                        refine pure_ (i := 23) (N := some 65) (v := ?_) (a' := ?_) #[true, true, true, true, true, true, true, true, true, true, true, true, true, true, true, true, true, true, true, true, true, true, true, true, false, false, false, false, false, false, false, false, false, false, false, false, false, false, false, false, false, false, false, false, false, false, false, false, false, false] rfl rfl (any_of HT_.out (by kernel_rfl)) (fun _ _ _ h => h) (Or.inl ⟨by rfl, ?_⟩) ?_ ?_
                        rotate_left
                        · intro w'
                          go_simp
                          with_reducible rfl
                        rotate_left
                        · simp only [Act.put, List.setIfInBounds_toArray, List.set_cons_zero, List.set_cons_succ, i64_w, i32_w]
                          rfl
                        refine pure_ (i := 24) (N := some 66) (v := ?_) (a' := ?_) #[true, true, true, true, true, true, true, true, true, true, true, true, true, true, true, true, true, true, true, true, true, true, true, true, true, false, false, false, false, false, false, false, false, false, false, false, false, false, false, false, false, false, false, false, false, false, false, false, false, false] rfl rfl (any_of HT_.out (by kernel_rfl)) (fun _ _ _ h => h) (Or.inl ⟨by rfl, ?_⟩) ?_ ?_
                        rotate_left
                        · intro w'
                          go_simp
                          with_reducible rfl
                        rotate_left
                        · simp only [Act.put, List.setIfInBounds_toArray, List.set_cons_zero, List.set_cons_succ, i64_w, i32_w]
                          rfl
                        refine pure_ (i := 25) (N := some 67) (v := ?_) (a' := ?_) #[true, true, true, true, true, true, true, true, true, true, true, true, true, true, true, true, true, true, true, true, true, true, true, true, true, true, false, false, false, false, false, false, false, false, false, false, false, false, false, false, false, false, false, false, false, false, false, false, false, false] rfl rfl (any_of HT_.out (by kernel_rfl)) (fun _ _ _ h => h) (Or.inl ⟨by rfl, ?_⟩) ?_ ?_
                        rotate_left
                        · intro w'
                          go_simp
                          with_reducible rfl
                        rotate_left
                        · simp only [Act.put, List.setIfInBounds_toArray, List.set_cons_zero, List.set_cons_succ, i64_w, i32_w]
                          rfl
                        refine pure_ (i := 26) (N := some 68) (v := ?_) (a' := ?_) #[true, true, true, true, true, true, true, true, true, true, true, true, true, true, true, true, true, true, true, true, true, true, true, true, true, true, true, false, false, false, false, false, false, false, false, false, false, false, false, false, false, false, false, false, false, false, false, false, false, false] rfl rfl (any_of HT_.out (by kernel_rfl)) (fun _ _ _ h => h) (Or.inl ⟨by rfl, ?_⟩) ?_ ?_
                        rotate_left
                        · intro w'
                          go_simp
                          with_reducible rfl
                        rotate_left
                        · simp only [Act.put, List.setIfInBounds_toArray, List.set_cons_zero, List.set_cons_succ, i64_w, i32_w]
                          rfl
                        refine pure_ (i := 27) (N := some 69) (v := ?_) (a' := ?_) #[true, true, true, true, true, true, true, true, true, true, true, true, true, true, true, true, true, true, true, true, true, true, true, true, true, true, true, true, false, false, false, false, false, false, false, false, false, false, false, false, false, false, false, false, false, false, false, false, false, false] rfl rfl (any_of HT_.out (by kernel_rfl)) (fun _ _ _ h => h) (Or.inl ⟨by rfl, ?_⟩) ?_ ?_
                        rotate_left
                        · intro w'
                          go_simp
                          with_reducible rfl
                        rotate_left
                        · simp only [Act.put, List.setIfInBounds_toArray, List.set_cons_zero, List.set_cons_succ, i64_w, i32_w]
                          rfl
                        refine pure_ (i := 28) (N := some 70) (v := ?_) (a' := ?_) #[true, true, true, true, true, true, true, true, true, true, true, true, true, true, true, true, true, true, true, true, true, true, true, true, true, true, true, true, true, false, false, false, false, false, false, false, false, false, false, false, false, false, false, false, false, false, false, false, false, false] rfl rfl (any_of HT_.out (by kernel_rfl)) (fun _ _ _ h => h) (Or.inl ⟨by rfl, ?_⟩) ?_ ?_
                        rotate_left
                        · intro w'
                          go_simp
                          with_reducible rfl
                        rotate_left
                        · simp only [Act.put, List.setIfInBounds_toArray, List.set_cons_zero, List.set_cons_succ, i64_w, i32_w]
                          rfl
                        refine pure_ (i := 29) (N := some 71) (v := ?_) (a' := ?_) #[true, true, true, true, true, true, true, true, true, true, true, true, true, true, true, true, true, true, true, true, true, true, true, true, true, true, true, true, true, true, false, false, false, false, false, false, false, false, false, false, false, false, false, false, false, false, false, false, false, false] rfl rfl (any_of HT_.out (by kernel_rfl)) (fun _ _ _ h => h) (Or.inl ⟨by rfl, ?_⟩) ?_ ?_
                        rotate_left
                        · intro w'
                          go_simp
                          with_reducible rfl
                        rotate_left
                        · simp only [Act.put, List.setIfInBounds_toArray, List.set_cons_zero, List.set_cons_succ, i64_w, i32_w]
                          rfl
                        refine pure_ (i := 30) (N := some 72) (v := ?_) (a' := ?_) #[true, true, true, true, true, true, true, true, true, true, true, true, true, true, true, true, true, true, true, true, true, true, true, true, true, true, true, true, true, true, true, false, false, false, false, false, false, false, false, false, false, false, false, false, false, false, false, false, false, false] rfl rfl (any_of HT_.out (by kernel_rfl)) (fun _ _ _ h => h) (Or.inl ⟨by rfl, ?_⟩) ?_ ?_
                        rotate_left
                        · intro w'
                          go_simp
                          with_reducible rfl
                        rotate_left
                        · simp only [Act.put, List.setIfInBounds_toArray, List.set_cons_zero, List.set_cons_succ, i64_w, i32_w]
                          rfl
                        refine pure_ (i := 31) (N := some 73) (v := ?_) (a' := ?_) #[true, true, true, true, true, true, true, true, true, true, true, true, true, true, true, true, true, true, true, true, true, true, true, true, true, true, true, true, true, true, true, true, false, false, false, false, false, false, false, false, false, false, false, false, false, false, false, false, false, false] rfl rfl (any_of HT_.out (by kernel_rfl)) (fun _ _ _ h => h) (Or.inl ⟨by rfl, ?_⟩) ?_ ?_
                        rotate_left
                        · intro w'
                          go_simp
                          with_reducible rfl
                        rotate_left
                        · simp only [Act.put, List.setIfInBounds_toArray, List.set_cons_zero, List.set_cons_succ, i64_w, i32_w]
                          rfl
                        refine pure_ (i := 32) (N := some 74) (v := ?_) (a' := ?_) #[true, true, true, true, true, true, true, true, true, true, true, true, true, true, true, true, true, true, true, true, true, true, true, true, true, true, true, true, true, true, true, true, true, false, false, false, false, false, false, false, false, false, false, false, false, false, false, false, false, false] rfl rfl (any_of HT_.out (by kernel_rfl)) (fun _ _ _ h => h) (Or.inl ⟨by rfl, ?_⟩) ?_ ?_
                        rotate_left
                        · intro w'
                          go_simp
                          with_reducible rfl
                        rotate_left
                        · simp only [Act.put, List.setIfInBounds_toArray, List.set_cons_zero, List.set_cons_succ, i64_w, i32_w]
                          rfl
                        refine pure_ (i := 33) (N := some 75) (v := ?_) (a' := ?_) #[true, true, true, true, true, true, true, true, true, true, true, true, true, true, true, true, true, true, true, true, true, true, true, true, true, true, true, true, true, true, true, true, true, true, false, false, false, false, false, false, false, false, false, false, false, false, false, false, false, false] rfl rfl (any_of HT_.out (by kernel_rfl)) (fun _ _ _ h => h) (Or.inl ⟨by rfl, ?_⟩) ?_ ?_
                        rotate_left
                        · intro w'
                          go_simp
                          with_reducible rfl
                        rotate_left
                        · simp only [Act.put, List.setIfInBounds_toArray, List.set_cons_zero, List.set_cons_succ, i64_w, i32_w]
                          rfl
                        refine pure_ (i := 34) (N := some 76) (v := ?_) (a' := ?_) #[true, true, true, true, true, true, true, true, true, true, true, true, true, true, true, true, true, true, true, true, true, true, true, true, true, true, true, true, true, true, true, true, true, true, true, false, false, false, false, false, false, false, false, false, false, false, false, false, false, false] rfl rfl (any_of HT_.out (by kernel_rfl)) (fun _ _ _ h => h) (Or.inl ⟨by rfl, ?_⟩) ?_ ?_
                        rotate_left
                        · intro w'
                          go_simp
                          with_reducible rfl
                        rotate_left
                        · simp only [Act.put, List.setIfInBounds_toArray, List.set_cons_zero, List.set_cons_succ, i64_w, i32_w]
                          rfl
                        refine pure_ (i := 35) (N := some 77) (v := ?_) (a' := ?_) #[true, true, true, true, true, true, true, true, true, true, true, true, true, true, true, true, true, true, true, true, true, true, true, true, true, true, true, true, true, true, true, true, true, true, true, true, false, false, false, false, false, false, false, false, false, false, false, false, false, false] rfl rfl (any_of HT_.out (by kernel_rfl)) (fun _ _ _ h => h) (Or.inl ⟨by rfl, ?_⟩) ?_ ?_
                        rotate_left
                        · intro w'
                          go_simp
                          with_reducible rfl
                        rotate_left
                        · simp only [Act.put, List.setIfInBounds_toArray, List.set_cons_zero, List.set_cons_succ, i64_w, i32_w]
                          rfl
                        refine one_ (i := 36) (N := some 78) #[true, true, true, true, true, true, true, true, true, true, true, true, true, true, true, true, true, true, true, true, true, true, true, true, true, true, true, true, true, true, true, true, true, true, true, true, true, false, false, false, false, false, false, false, false, false, false, false, false, false] rfl rfl (one_of HT_.out (by kernel_rfl)) (by decide) (fun K hK => ?_)
                        refine Kd.R_lit_step (Kd.int .i64) _ 3 ?hg (N := 78) ?hd (xs := ([1] : List Int)) (inner := [.int .i64 1]) (ok := fun _ => True) (okp := fun _ => True) ?hr ?hp (fun _ hk => hk) trivial (Below.refl _ _) (Nat.le_refl _) (by simp) ?_; (case hd => rfl); (case hg => rfl); (case hr => first | (go_simp; done) | (go_simp; rfl)); (case hp => exact (Reps.one (show Kd.M (Kd.int .i64) _ _ _ 1 [.int .i64 1] from rfl) (Reps.none _ _)))
                        intro v246 w51 ho52 hb hg_ hnew_
                        clear hg_ hnew_
                        (first | rw [← Ny245.out] at ho52 | (simp only [Int.reduceToNat] at ho52; rw [← Ny245.out] at ho52))
                        have n0_ := Aside0.mk (Kd.R_below (by (with_reducible repeat (first | apply Kd.R_alloc | apply Kd.R_drewN | apply Kd.R_drew)); exact HO197.out) hb)
                        have n1_ := Aside0.mk (Kd.R_below (by (with_reducible repeat (first | apply Kd.R_alloc | apply Kd.R_drewN | apply Kd.R_drew)); exact HO200.out) hb)
                        have n2_ := Aside0.mk (Kd.R_below (by (with_reducible repeat (first | apply Kd.R_alloc | apply Kd.R_drewN | apply Kd.R_drew)); exact HO208.out) hb)
                        have n3_ := Aside0.mk (Kd.R_below (by (with_reducible repeat (first | apply Kd.R_alloc | apply Kd.R_drewN | apply Kd.R_drew)); exact HO211.out) hb)
                        have n4_ := Aside0.mk (Kd.R_below (by (with_reducible repeat (first | apply Kd.R_alloc | apply Kd.R_drewN | apply Kd.R_drew)); exact HO216.out) hb)
                        have n5_ := Aside0.mk (Kd.R_below (by (with_reducible repeat (first | apply Kd.R_alloc | apply Kd.R_drewN | apply Kd.R_drew)); exact HO219.out) hb)
                        have n6_ := Aside0.mk (Kd.R_elder' (by (with_reducible repeat (first | apply Kd.R_alloc | apply Kd.R_drewN | apply Kd.R_drew)); exact HO224.out) (Kd.R_base ho52) hb)
                        have n7_ := Aside0.mk (Kd.R_below (by (with_reducible repeat (first | apply Kd.R_alloc | apply Kd.R_drewN | apply Kd.R_drew)); exact HO227.out) hb)
                        have n8_ := Aside0.mk (Kd.R_elder' (by (with_reducible repeat (first | apply Kd.R_alloc | apply Kd.R_drewN | apply Kd.R_drew)); exact HO233.out) (Kd.R_base ho52) hb)
                        have n9_ := Aside0.mk (Kd.R_below (by (with_reducible repeat (first | apply Kd.R_alloc | apply Kd.R_drewN | apply Kd.R_drew)); exact HO238.out) hb)
                        have n10_ := Aside0.mk (Kd.R_lower (Kd.R_new' (Kd.R_new' ho52 (Kd.R_lt (by (with_reducible repeat (first | apply Kd.R_alloc | apply Kd.R_drewN | apply Kd.R_drew)); exact HO224.out))) (Kd.R_lt (by (with_reducible repeat (first | apply Kd.R_alloc | apply Kd.R_drewN | apply Kd.R_drew)); exact HO233.out))) (below_size (by repeat (first | (with_reducible first | exact HB.out | apply below_alloc | apply pw_below_drewN | apply below_drew1 | refine below_set ?_ GE244.out) | exact HB.out))))
                        have n11_ := Aside0.mk (blk_below (g := gb244) (o := .cells #[.int .i64 t241, .int .i64 t242] 24 (0, 0)) (by (with_reducible repeat (first | refine blk_drewN ?_ _ | refine blk_drew ?_ | refine blk_alloc ?_ _)); exact BK244.out) hb)
                        have n12_ := Aside0.mk (below_step (by repeat (first | (with_reducible first | exact HB.out | apply below_alloc | apply pw_below_drewN | apply below_drew1 | refine below_set ?_ GE244.out) | exact HB.out)) hb)
                        clear HO197
                        clear HO200
                        clear HO208
                        clear HO211
                        clear HO216
                        clear HO219
                        clear HO224
                        clear HO227
                        clear HO233
                        clear HO238
                        clear BK244
                        clear HB
                        have HO197 := n0_
                        have HO200 := n1_
                        have HO208 := n2_
                        have HO211 := n3_
                        have HO216 := n4_
                        have HO219 := n5_
                        have HO224 := n6_
                        have HO227 := n7_
                        have HO233 := n8_
                        have HO238 := n9_
                        have HO247 := n10_
                        have BK244 := n11_
                        have HB := n12_
                        clear n0_ n1_ n2_ n3_ n4_ n5_ n6_ n7_ n8_ n9_ n10_ n11_ n12_
                        clear hb ho52
                        obtain ⟨Ao53, co53, eo53⟩ := Kd.R_slice HO224.out
                        (first | subst eo53 | (injection eo53 with f1_ f2_ f3_; have f4_ := f1_.symm; have f5_ := f3_.symm; clear f1_ f2_ f3_; subst f4_; subst f5_))
                        obtain ⟨Ao54, co54, eo54⟩ := Kd.R_slice HO247.out
                        (first | subst eo54 | (injection eo54 with f1_ f2_ f3_; have f4_ := f1_.symm; have f5_ := f3_.symm; clear f1_ f2_ f3_; subst f4_; subst f5_))
                        refine hK.out _ _ ⟨(blk_cell BK244.out 0).trans rfl, (blk_cell BK244.out 1).trans rfl⟩ (fun hHeld => ?_)
                        clear hK K
                        refine norm_ (a' := ?_) ?_ ?_
                        rotate_left
                        · show Act.put _ (some 78) _ = _
                          simp only [Act.put, List.setIfInBounds_toArray, List.set_cons_zero, List.set_cons_succ, i64_w, i32_w]
                          rfl
                        refine one_ (i := 37) (N := some 79) #[true, true, true, true, true, true, true, true, true, true, true, true, true, true, true, true, true, true, true, true, true, true, true, true, true, true, true, true, true, true, true, true, true, true, true, true, true, true, false, false, false, false, false, false, false, false, false, false, false, false] rfl rfl (one_of HT_.out (by kernel_rfl)) (by decide) (fun K hK => ?_)
                        refine goes_ Try.func46 (by kernel_rfl) rfl #[.slice Ao53 t221.length co53, .slice Ao54 y245.length co54] (by rfl) rfl rfl (by (try simp only [List.map_toArray, List.map_cons, List.map_nil]); first | done | rfl | (simp only [List.length_drop, List.length_take]; rfl)) ?_
                        with_reducible refine (swarfkit_EqualInts.calls k _ _ t221 _ _ y245 true _ ?side1 ?side2 ?side3 ?side4 A21.out).mono ?_
                        (case side1 => repeat (first | exact (Kd.R_reads' HO224.out).2.2 | (with_reducible refine Kd.C_alloc ?_ _) | (with_reducible refine Kd.C_drewN ?_ _) | (with_reducible refine Kd.C_drew ?_)))
                        (case side2 => exact (Kd.R_reads' HO224.out).2.1)
                        (case side3 => repeat (first | exact (Kd.R_reads' HO247.out).2.2 | (with_reducible refine Kd.C_alloc ?_ _) | (with_reducible refine Kd.C_drewN ?_ _) | (with_reducible refine Kd.C_drew ?_)))
                        (case side4 => exact (Kd.R_reads' HO247.out).2.1)
                        rintro e w' ⟨rfl, ⟨nd, rfl⟩⟩
                        refine ⟨_, rfl, ?_⟩
                        refine hK.out _ _ ⟨(blk_cell BK244.out 0).trans rfl, (blk_cell BK244.out 1).trans rfl⟩ (fun hHeld => ?_)
                        clear hK K
                        refine norm_ (a' := ?_) ?_ ?_
                        rotate_left
                        · show Act.put _ (some 79) _ = _
                          simp only [Act.put, List.setIfInBounds_toArray, List.set_cons_zero, List.set_cons_succ, i64_w, i32_w]
                          rfl
                        refine pure_ (i := 38) (N := some 80) (v := ?_) (a' := ?_) #[true, true, true, true, true, true, true, true, true, true, true, true, true, true, true, true, true, true, true, true, true, true, true, true, true, true, true, true, true, true, true, true, true, true, true, true, true, true, true, false, false, false, false, false, false, false, false, false, false, false] rfl rfl (any_of HT_.out (by kernel_rfl)) (fun _ _ _ h => h) (Or.inl ⟨by rfl, ?_⟩) ?_ ?_
                        rotate_left
                        · intro w'
                          go_simp
                          with_reducible rfl
                        rotate_left
                        · simp only [Act.put, List.setIfInBounds_toArray, List.set_cons_zero, List.set_cons_succ, i64_w, i32_w]
                          rfl
                        refine pure_ (i := 39) (N := some 81) (v := ?_) (a' := ?_) #[true, true, true, true, true, true, true, true, true, true, true, true, true, true, true, true, true, true, true, true, true, true, true, true, true, true, true, true, true, true, true, true, true, true, true, true, true, true, true, true, false, false, false, false, false, false, false, false, false, false] rfl rfl (any_of HT_.out (by kernel_rfl)) (fun _ _ _ h => h) (Or.inl ⟨by rfl, ?_⟩) ?_ ?_
                        rotate_left
                        · intro w'
                          go_simp
                          with_reducible rfl
                        rotate_left
                        · simp only [Act.put, List.setIfInBounds_toArray, List.set_cons_zero, List.set_cons_succ, i64_w, i32_w]
                          rfl
                        refine pure_ (i := 40) (N := some 82) (v := ?_) (a' := ?_) #[true, true, true, true, true, true, true, true, true, true, true, true, true, true, true, true, true, true, true, true, true, true, true, true, true, true, true, true, true, true, true, true, true, true, true, true, true, true, true, true, true, false, false, false, false, false, false, false, false, false] rfl rfl (any_of HT_.out (by kernel_rfl)) (fun _ _ _ h => h) (Or.inl ⟨by rfl, ?_⟩) ?_ ?_
                        rotate_left
                        · intro w'
                          go_simp
                          with_reducible rfl
                        rotate_left
                        · simp only [Act.put, List.setIfInBounds_toArray, List.set_cons_zero, List.set_cons_succ, i64_w, i32_w]
                          rfl
                        refine one_ (i := 41) (N := some 83) #[true, true, true, true, true, true, true, true, true, true, true, true, true, true, true, true, true, true, true, true, true, true, true, true, true, true, true, true, true, true, true, true, true, true, true, true, true, true, true, true, true, true, false, false, false, false, false, false, false, false] rfl rfl (one_of HT_.out (by kernel_rfl)) (by decide) (fun K hK => ?_)
                        refine Kd.R_lit_step (Kd.int .i64) _ 3 ?hg (N := 83) ?hd (xs := ([4, 6, 5] : List Int)) (inner := [.int .i64 4, .int .i64 6, .int .i64 5]) (ok := fun _ => True) (okp := fun _ => True) ?hr ?hp (fun _ hk => hk) trivial (Below.refl _ _) (Nat.le_refl _) (by simp) ?_; (case hd => rfl); (case hg => rfl); (case hr => first | (go_simp; done) | (go_simp; rfl)); (case hp => exact (Reps.one (show Kd.M (Kd.int .i64) _ _ _ 4 [.int .i64 4] from rfl) (Reps.one (show Kd.M (Kd.int .i64) _ _ _ 6 [.int .i64 6] from rfl) (Reps.one (show Kd.M (Kd.int .i64) _ _ _ 5 [.int .i64 5] from rfl) (Reps.none _ _)))))
                        intro v250 w55 ho56 hb hg_ hnew_
                        clear hg_ hnew_
                        (first | rw [← Ny249.out] at ho56 | (simp only [Int.reduceToNat] at ho56; rw [← Ny249.out] at ho56))
                        have n0_ := Aside0.mk (Kd.R_below (by (with_reducible repeat (first | apply Kd.R_alloc | apply Kd.R_drewN | apply Kd.R_drew)); exact HO197.out) hb)
                        have n1_ := Aside0.mk (Kd.R_below (by (with_reducible repeat (first | apply Kd.R_alloc | apply Kd.R_drewN | apply Kd.R_drew)); exact HO200.out) hb)
                        have n2_ := Aside0.mk (Kd.R_below (by (with_reducible repeat (first | apply Kd.R_alloc | apply Kd.R_drewN | apply Kd.R_drew)); exact HO208.out) hb)
                        have n3_ := Aside0.mk (Kd.R_below (by (with_reducible repeat (first | apply Kd.R_alloc | apply Kd.R_drewN | apply Kd.R_drew)); exact HO211.out) hb)
                        have n4_ := Aside0.mk (Kd.R_below (by (with_reducible repeat (first | apply Kd.R_alloc | apply Kd.R_drewN | apply Kd.R_drew)); exact HO216.out) hb)
                        have n5_ := Aside0.mk (Kd.R_below (by (with_reducible repeat (first | apply Kd.R_alloc | apply Kd.R_drewN | apply Kd.R_drew)); exact HO219.out) hb)
                        have n6_ := Aside0.mk (Kd.R_elder' (by (with_reducible repeat (first | apply Kd.R_alloc | apply Kd.R_drewN | apply Kd.R_drew)); exact HO224.out) (Kd.R_base ho56) hb)
                        have n7_ := Aside0.mk (Kd.R_below (by (with_reducible repeat (first | apply Kd.R_alloc | apply Kd.R_drewN | apply Kd.R_drew)); exact HO227.out) hb)
                        have n8_ := Aside0.mk (Kd.R_elder' (by (with_reducible repeat (first | apply Kd.R_alloc | apply Kd.R_drewN | apply Kd.R_drew)); exact HO233.out) (Kd.R_base ho56) hb)
                        have n9_ := Aside0.mk (Kd.R_below (by (with_reducible repeat (first | apply Kd.R_alloc | apply Kd.R_drewN | apply Kd.R_drew)); exact HO238.out) hb)
                        have n10_ := Aside0.mk (Kd.R_elder' (by (with_reducible repeat (first | apply Kd.R_alloc | apply Kd.R_drewN | apply Kd.R_drew)); exact HO247.out) (Kd.R_base ho56) hb)
                        have n11_ := Aside0.mk (Kd.R_lower (Kd.R_new' (Kd.R_new' (Kd.R_new' ho56 (Kd.R_lt (by (with_reducible repeat (first | apply Kd.R_alloc | apply Kd.R_drewN | apply Kd.R_drew)); exact HO224.out))) (Kd.R_lt (by (with_reducible repeat (first | apply Kd.R_alloc | apply Kd.R_drewN | apply Kd.R_drew)); exact HO233.out))) (Kd.R_lt (by (with_reducible repeat (first | apply Kd.R_alloc | apply Kd.R_drewN | apply Kd.R_drew)); exact HO247.out))) (below_size (by repeat (first | (with_reducible first | exact HB.out | apply below_alloc | apply pw_below_drewN | apply below_drew1 | refine below_set ?_ GE244.out) | exact HB.out))))
                        have n12_ := Aside0.mk (blk_below (g := gb244) (o := .cells #[.int .i64 t241, .int .i64 t242] 24 (0, 0)) (by (with_reducible repeat (first | refine blk_drewN ?_ _ | refine blk_drew ?_ | refine blk_alloc ?_ _)); exact BK244.out) hb)
                        have n13_ := Aside0.mk (below_step (by repeat (first | (with_reducible first | exact HB.out | apply below_alloc | apply pw_below_drewN | apply below_drew1 | refine below_set ?_ GE244.out) | exact HB.out)) hb)
                        clear HO197
                        clear HO200
                        clear HO208
                        clear HO211
                        clear HO216
                        clear HO219
                        clear HO224
                        clear HO227
                        clear HO233
                        clear HO238
                        clear HO247
                        clear BK244
                        clear HB
                        have HO197 := n0_
                        have HO200 := n1_
                        have HO208 := n2_
                        have HO211 := n3_
                        have HO216 := n4_
                        have HO219 := n5_
                        have HO224 := n6_
                        have HO227 := n7_
                        have HO233 := n8_
                        have HO238 := n9_
                        have HO247 := n10_
                        have HO251 := n11_
                        have BK244 := n12_
                        have HB := n13_
                        clear n0_ n1_ n2_ n3_ n4_ n5_ n6_ n7_ n8_ n9_ n10_ n11_ n12_ n13_
                        clear hb ho56
                        obtain ⟨Ao57, co57, eo57⟩ := Kd.R_slice HO233.out
                        (first | subst eo57 | (injection eo57 with f1_ f2_ f3_; have f4_ := f1_.symm; have f5_ := f3_.symm; clear f1_ f2_ f3_; subst f4_; subst f5_))
                        obtain ⟨Ao58, co58, eo58⟩ := Kd.R_slice HO251.out
                        (first | subst eo58 | (injection eo58 with f1_ f2_ f3_; have f4_ := f1_.symm; have f5_ := f3_.symm; clear f1_ f2_ f3_; subst f4_; subst f5_))
                        refine hK.out _ _ ⟨(blk_cell BK244.out 0).trans rfl, (blk_cell BK244.out 1).trans rfl⟩ (fun hHeld => ?_)
                        clear hK K
                        refine norm_ (a' := ?_) ?_ ?_
                        rotate_left
                        · show Act.put _ (some 83) _ = _
                          simp only [Act.put, List.setIfInBounds_toArray, List.set_cons_zero, List.set_cons_succ, i64_w, i32_w]
                          rfl
                        refine one_ (i := 42) (N := some 84) #[true, true, true, true, true, true, true, true, true, true, true, true, true, true, true, true, true, true, true, true, true, true, true, true, true, true, true, true, true, true, true, true, true, true, true, true, true, true, true, true, true, true, true, false, false, false, false, false, false, false] rfl rfl (one_of HT_.out (by kernel_rfl)) (by decide) (fun K hK => ?_)
                        refine goes_ Try.func46 (by kernel_rfl) rfl #[.slice Ao57 t231.length co57, .slice Ao58 y249.length co58] (by rfl) rfl rfl (by (try simp only [List.map_toArray, List.map_cons, List.map_nil]); first | done | rfl | (simp only [List.length_drop, List.length_take]; rfl)) ?_
                        with_reducible refine (swarfkit_EqualInts.calls k _ _ t231 _ _ y249 true _ ?side1 ?side2 ?side3 ?side4 A23.out).mono ?_
                        (case side1 => repeat (first | exact (Kd.R_reads' HO233.out).2.2 | (with_reducible refine Kd.C_alloc ?_ _) | (with_reducible refine Kd.C_drewN ?_ _) | (with_reducible refine Kd.C_drew ?_)))
                        (case side2 => exact (Kd.R_reads' HO233.out).2.1)
                        (case side3 => repeat (first | exact (Kd.R_reads' HO251.out).2.2 | (with_reducible refine Kd.C_alloc ?_ _) | (with_reducible refine Kd.C_drewN ?_ _) | (with_reducible refine Kd.C_drew ?_)))
                        (case side4 => exact (Kd.R_reads' HO251.out).2.1)
                        rintro e w' ⟨rfl, ⟨nd, rfl⟩⟩
                        refine ⟨_, rfl, ?_⟩
                        refine hK.out _ _ ⟨(blk_cell BK244.out 0).trans rfl, (blk_cell BK244.out 1).trans rfl⟩ (fun hHeld => ?_)
                        clear hK K
                        refine norm_ (a' := ?_) ?_ ?_
                        rotate_left
                        · show Act.put _ (some 84) _ = _
                          simp only [Act.put, List.setIfInBounds_toArray, List.set_cons_zero, List.set_cons_succ, i64_w, i32_w]
                          rfl
                        refine pure_ (i := 43) (N := some 85) (v := ?_) (a' := ?_) #[true, true, true, true, true, true, true, true, true, true, true, true, true, true, true, true, true, true, true, true, true, true, true, true, true, true, true, true, true, true, true, true, true, true, true, true, true, true, true, true, true, true, true, true, false, false, false, false, false, false] rfl rfl (any_of HT_.out (by kernel_rfl)) (fun _ _ _ h => h) (Or.inl ⟨by rfl, ?_⟩) ?_ ?_
                        rotate_left
                        · intro w'
                          go_simp
                          with_reducible rfl
                        rotate_left
                        · simp only [Act.put, List.setIfInBounds_toArray, List.set_cons_zero, List.set_cons_succ, i64_w, i32_w]
                          rfl
                        refine pure_ (i := 44) (N := some 86) (v := ?_) (a' := ?_) #[true, true, true, true, true, true, true, true, true, true, true, true, true, true, true, true, true, true, true, true, true, true, true, true, true, true, true, true, true, true, true, true, true, true, true, true, true, true, true, true, true, true, true, true, true, false, false, false, false, false] rfl rfl (any_of HT_.out (by kernel_rfl)) (fun _ _ _ h => h) (Or.inl ⟨by rfl, ?_⟩) ?_ ?_
                        rotate_left
                        · intro w'
                          go_simp
                          with_reducible rfl
                        rotate_left
                        · simp only [Act.put, List.setIfInBounds_toArray, List.set_cons_zero, List.set_cons_succ, i64_w, i32_w]
                          rfl
                        refine take_ (i := 45) (N := some 87) (v := ?_) (a' := ?_) #[true, true, true, true, true, true, true, true, true, true, true, true, true, true, true, true, true, true, true, true, true, true, true, true, true, true, true, true, true, true, true, true, true, true, true, true, true, true, true, true, true, true, true, true, true, true, false, false, false, false] rfl rfl (take_ofW HT_.out HW_.out (by kernel_rfl)) (fun _ _ _ h => h) (Or.inl ⟨by rfl, ?_⟩) hHeld ?_ ?_
                        rotate_left
                        · rintro w' ⟨s0, s1⟩
                          go_simp
                          with_reducible rfl
                        rotate_left
                        · simp only [Act.put, List.setIfInBounds_toArray, List.set_cons_zero, List.set_cons_succ, i64_w, i32_w]
                          rfl
                        refine one_ (i := 46) (N := some 88) #[true, true, true, true, true, true, true, true, true, true, true, true, true, true, true, true, true, true, true, true, true, true, true, true, true, true, true, true, true, true, true, true, true, true, true, true, true, true, true, true, true, true, true, true, true, true, true, false, false, false] rfl rfl (one_of HT_.out (by kernel_rfl)) (by decide) (fun K hK => ?_)
                        refine goes_ Try.func27 (by kernel_rfl) rfl #[.int .i64 189000, .int .i64 283500] (by rfl) rfl rfl (by (try simp only [List.map_toArray, List.map_cons, List.map_nil]); first | done | rfl | (simp only [List.length_drop, List.length_take]; rfl)) ?_
                        with_reducible refine (swarflaw08_to.calls 189000 283500 t253 t254 _ A25.out).mono ?_
                        rintro e w59 ⟨rfl, hb⟩
                        refine ⟨_, rfl, ?_⟩
                        have n0_ := Aside0.mk (Kd.R_below (by (with_reducible repeat (first | apply Kd.R_alloc | apply Kd.R_drewN | apply Kd.R_drew)); exact HO197.out) hb)
                        have n1_ := Aside0.mk (Kd.R_below (by (with_reducible repeat (first | apply Kd.R_alloc | apply Kd.R_drewN | apply Kd.R_drew)); exact HO200.out) hb)
                        have n2_ := Aside0.mk (Kd.R_below (by (with_reducible repeat (first | apply Kd.R_alloc | apply Kd.R_drewN | apply Kd.R_drew)); exact HO208.out) hb)
                        have n3_ := Aside0.mk (Kd.R_below (by (with_reducible repeat (first | apply Kd.R_alloc | apply Kd.R_drewN | apply Kd.R_drew)); exact HO211.out) hb)
                        have n4_ := Aside0.mk (Kd.R_below (by (with_reducible repeat (first | apply Kd.R_alloc | apply Kd.R_drewN | apply Kd.R_drew)); exact HO216.out) hb)
                        have n5_ := Aside0.mk (Kd.R_below (by (with_reducible repeat (first | apply Kd.R_alloc | apply Kd.R_drewN | apply Kd.R_drew)); exact HO219.out) hb)
                        have n6_ := Aside0.mk (Kd.R_below (by (with_reducible repeat (first | apply Kd.R_alloc | apply Kd.R_drewN | apply Kd.R_drew)); exact HO224.out) hb)
                        have n7_ := Aside0.mk (Kd.R_below (by (with_reducible repeat (first | apply Kd.R_alloc | apply Kd.R_drewN | apply Kd.R_drew)); exact HO227.out) hb)
                        have n8_ := Aside0.mk (Kd.R_below (by (with_reducible repeat (first | apply Kd.R_alloc | apply Kd.R_drewN | apply Kd.R_drew)); exact HO233.out) hb)
                        have n9_ := Aside0.mk (Kd.R_below (by (with_reducible repeat (first | apply Kd.R_alloc | apply Kd.R_drewN | apply Kd.R_drew)); exact HO238.out) hb)
                        have n10_ := Aside0.mk (Kd.R_below (by (with_reducible repeat (first | apply Kd.R_alloc | apply Kd.R_drewN | apply Kd.R_drew)); exact HO247.out) hb)
                        have n11_ := Aside0.mk (Kd.R_below (by (with_reducible repeat (first | apply Kd.R_alloc | apply Kd.R_drewN | apply Kd.R_drew)); exact HO251.out) hb)
                        have n12_ := Aside0.mk (blk_below (g := gb244) (o := .cells #[.int .i64 t241, .int .i64 t242] 24 (0, 0)) (by (with_reducible repeat (first | refine blk_drewN ?_ _ | refine blk_drew ?_ | refine blk_alloc ?_ _)); exact BK244.out) hb)
                        have n13_ := Aside0.mk (below_step (by repeat (first | (with_reducible first | exact HB.out | apply below_alloc | apply pw_below_drewN | apply below_drew1 | refine below_set ?_ GE244.out) | exact HB.out)) hb)
                        clear HO197
                        clear HO200
                        clear HO208
                        clear HO211
                        clear HO216
                        clear HO219
                        clear HO224
                        clear HO227
                        clear HO233
                        clear HO238
                        clear HO247
                        clear HO251
                        clear BK244
                        clear HB
                        have HO197 := n0_
                        have HO200 := n1_
                        have HO208 := n2_
                        have HO211 := n3_
                        have HO216 := n4_
                        have HO219 := n5_
                        have HO224 := n6_
                        have HO227 := n7_
                        have HO233 := n8_
                        have HO238 := n9_
                        have HO247 := n10_
                        have HO251 := n11_
                        have BK244 := n12_
                        have HB := n13_
                        clear n0_ n1_ n2_ n3_ n4_ n5_ n6_ n7_ n8_ n9_ n10_ n11_ n12_ n13_
                        (try clear hb)
                        (try clear hb2)
                        (try clear hk)
                        (try clear hi)
                        refine hK.out _ _ ⟨(blk_cell BK244.out 0).trans rfl, (blk_cell BK244.out 1).trans rfl⟩ (fun hHeld => ?_)
                        clear hK K
                        refine norm_ (a' := ?_) ?_ ?_
                        rotate_left
                        · show Act.put _ (some 88) _ = _
                          simp only [Act.put, List.setIfInBounds_toArray, List.set_cons_zero, List.set_cons_succ, i64_w, i32_w]
                          rfl
                        refine pure_ (i := 47) (N := some 89) (v := ?_) (a' := ?_) #[true, true, true, true, true, true, true, true, true, true, true, true, true, true, true, true, true, true, true, true, true, true, true, true, true, true, true, true, true, true, true, true, true, true, true, true, true, true, true, true, true, true, true, true, true, true, true, true, false, false] rfl rfl (any_of HT_.out (by kernel_rfl)) (fun _ _ _ h => h) (Or.inl ⟨by rfl, ?_⟩) ?_ ?_
                        rotate_left
                        · intro w'
                          go_simp
                          with_reducible rfl
                        rotate_left
                        · simp only [Act.put, List.setIfInBounds_toArray, List.set_cons_zero, List.set_cons_succ, i64_w, i32_w]
                          rfl
                        refine pure_ (i := 48) (N := some 90) (v := ?_) (a' := ?_) #[true, true, true, true, true, true, true, true, true, true, true, true, true, true, true, true, true, true, true, true, true, true, true, true, true, true, true, true, true, true, true, true, true, true, true, true, true, true, true, true, true, true, true, true, true, true, true, true, true, false] rfl rfl (any_of HT_.out (by kernel_rfl)) (fun _ _ _ h => h) (Or.inl ⟨by rfl, ?_⟩) ?_ ?_
                        rotate_left
                        · intro w'
                          go_simp
                          with_reducible rfl
                        rotate_left
                        · simp only [Act.put, List.setIfInBounds_toArray, List.set_cons_zero, List.set_cons_succ, i64_w, i32_w]
                          rfl
                        refine pure_ (i := 49) (N := some 0) (v := ?_) (a' := ?_) #[true, true, true, true, true, true, true, true, true, true, true, true, true, true, true, true, true, true, true, true, true, true, true, true, true, true, true, true, true, true, true, true, true, true, true, true, true, true, true, true, true, true, true, true, true, true, true, true, true, true] rfl rfl (any_of HT_.out (by kernel_rfl)) (fun _ _ _ h => h) (Or.inl ⟨by rfl, ?_⟩) ?_ ?_
                        rotate_left
                        · intro w'
                          go_simp
                          with_reducible rfl
                        rotate_left
                        · simp only [Act.put, List.setIfInBounds_toArray, List.set_cons_zero, List.set_cons_succ, i64_w, i32_w]
                          rfl
                        refine done_ (done_of HT_.out (by kernel_rfl)) ?_
                        try go_wp2
                        go_ret
                        exact ⟨by first | rfl | (simp [errW_none, errW_some] <;> rfl) | (simp [*, errW_none, errW_some] <;> rfl), by repeat (first | (with_reducible first | exact HB.out | apply below_alloc | apply pw_below_drewN | apply below_drew1 | refine below_set ?_ GE244.out) | exact HB.out)⟩
                      · replace c24 := Bool.eq_false_iff.mpr c24
                        subst c24
                        have H1 : (some false) = some r := by rw [if_neg (show ¬ (false = true) by decide)] at H; exact H
                        exact absurd ((Option.some.inj H1).trans HRT_.out) (by decide)
                    · replace c22 := Bool.eq_false_iff.mpr c22
                      subst c22
                      have H1 : (some false) = some r := by rw [if_neg (show ¬ (false = true) by decide)] at H; exact H
                      exact absurd ((Option.some.inj H1).trans HRT_.out) (by decide)
                  · rw [if_neg c20] at H
                    exact absurd ((Option.some.inj H).trans HRT_.out) (by decide)
                · rw [if_neg c19] at H
                  exact absurd ((Option.some.inj H).trans HRT_.out) (by decide)
              · rw [if_neg c18] at H
                exact absurd ((Option.some.inj H).trans HRT_.out) (by decide)
            · rw [if_neg c17] at H
              exact absurd ((Option.some.inj H).trans HRT_.out) (by decide)
          · rw [if_neg c16] at H
            exact absurd ((Option.some.inj H).trans HRT_.out) (by decide)
        · rw [if_neg c15] at H
          exact absurd ((Option.some.inj H).trans HRT_.out) (by decide)
      · rw [if_neg c14] at H
        exact absurd ((Option.some.inj H).trans HRT_.out) (by decide)
    · rw [if_neg c13] at H
      exact absurd ((Option.some.inj H).trans HRT_.out) (by decide)
  · rw [if_neg c12] at H
    exact absurd ((Option.some.inj H).trans HRT_.out) (by decide)
end
theorem awake0_true : swarflaw08_awake0.f 9 = some true := by
  unfold swarflaw08_awake0.f
  have e1 : ∀ n, swarflaw08_till.f n = some (4, n, 3, exLinks, exDues) := fun n => rfl
  have e2 : swarflaw08_tags.f = some exTags := rfl
  have e3 : swarflaw08_hedge.f 30 = some (exStock, 25, 30, 4) := rfl
  rw [e1, e1, e2, e3]
  simp only [Option.bind_some, pay_Lawful.f, pay_Soonest.f, pay_Match.f, pay_Hedged.f, pay_Value.f, ex_lawful, ex_soon, ex_match, ex_hedged]
  decide +kernel
def swarflaw08_awake.f (k : Nat)  : Option (Bool) := some true
theorem swarflaw08_awake.mono : ∀ k, LeO (swarflaw08_awake.f k ) (swarflaw08_awake.f (k + 1) ) := fun _ => LeO.refl _
theorem swarflaw08_awake.calls (k : Nat)  (r : Bool) (w : World) (h : swarflaw08_awake.f k  = some r) :
    Calls Try.prog 16 #[] w fun e w' => e = .returned (.bool r) ∧ Below w.heap.size w w' := by
  cases h
  exact swarflaw08_awake0.calls 9 true w rfl awake0_true
end Go.Proofs.Ytkdlbocjgbmbdaa.Print

namespace Go.Proofs.Ytkdlbocjgbmbdaa.Print
open Go.RowKit Go.Shelf Go.Proofs.YtkdlbocjgbmbdaaW.PrintWords Go.Proofs.YtkdlbocjgbmbdaaW.PrintLast Go.Proofs.YtkdlbocjgbmbdaaW.PrintMore
set_option linter.unusedVariables false
attribute [local go_sem] Oper.semAt_some
theorem cell_same' {W W' : World} (h : W'.heap = W.heap) {p : Addr} {v : Value} (hv : W.cell? p = some v) : W'.cell? p = some v := by rw [← hv]; simp only [World.cell?, h]
def feedMix (s x : Int) : Int := Go.bits .xor .u64 s (IntKind.u64.wrap (IntKind.u64.wrap x * 15485907386658061715))
def feedSeed : Int := 88172645463325252
def feedK (l : List Int) : Nat → Int
  | 0 => feedSeed
  | k + 1 => nextD (feedMix (feedK l k) (l.getD k 0))
def swarfkit_FeedOf.f (k : Nat) (l0 : List Int) : Option (Int) := some (feedK l0 l0.length)
theorem swarfkit_FeedOf.mono : ∀ a0 k, LeO (swarfkit_FeedOf.f k a0) (swarfkit_FeedOf.f (k + 1) a0) := fun _ _ => LeO.refl _
set_option maxHeartbeats 8000000 in
set_option maxRecDepth 100000 in
theorem swarfkit_FeedOf.calls (k : Nat) (A0 : Option Addr) (c0 : Nat) (l0 : List Int) (r : Int) (w0 w : World) (hB : Below w0.heap.size w0 w) (hr0 : Kd.C (Kd.int .i64) w0 A0 l0.length l0) (hc0 : l0.length ≤ c0) (h : swarfkit_FeedOf.f k l0 = some r) :
    Calls Try.prog 17 #[.slice A0 l0.length c0] w fun e w' => ∃ g_ : Nat, e = .returned (.pointer (some ⟨g_, 0, none⟩)) ∧ IsS124 w0 w' g_ r ∧ Below w0.heap.size w0 w' ∧ Below w.heap.size w w' := by
  have hr : feedK l0 l0.length = r := Option.some.inj h
  subst hr
  clear h
  have hmax := Kd.C_max hr0
  have F0 : FeedAt w0 (w.alloc (.cells #[.int .u64 feedSeed] 124)) w.heap.size (feedK l0 0) (w.alloc (.cells #[.int .u64 feedSeed] 124)) := ⟨blk_new w 124 _, hB.size, below_alloc' hB _, KeepBut.refl _ _ _⟩
  have L0 : Below w.heap.size w (w.alloc (.cells #[.int .u64 feedSeed] 124)) := below_alloc (Below.refl _ _) _
  go_enter Try.func17, Try.ntmps17
  go_wp2
  rw [show (88172645463325252 : Int) = feedSeed from rfl]
  generalize w.alloc (.cells #[.int .u64 feedSeed] 124) = W0 at *
  generalize hg : w.heap.size = g at *
  have hgw : w0.heap.size ≤ g := F0.hg
  have F0' : IsS124 w0 W0 g (feedK l0 0) := ⟨F0.b, F0.hg⟩
  have B0 := F0.hB
  clear F0
  go_loopw [4] (fun vi wr => ∃ k : Nat, k ≤ l0.length ∧ vi = .int .i64 k ∧ IsS124 w0 wr g (feedK l0 k) ∧ Below w0.heap.size w0 wr ∧ Below g w wr) (fun vi _ => l0.length - (intOf vi).toNat)
  · exact ⟨0, Nat.zero_le _, rfl, F0', B0, L0⟩
  · clear F0' B0 L0
    obtain ⟨k, hk, rfl, hI, hB0, hBw⟩ := hrel
    by_cases hlt : k < l0.length
    · obtain ⟨ad, hA, c0⟩ := Kd.at_int (Kd.C_below hr0 hB0) k (by omega) (by omega)
      subst hA
      simp only [Int.toNat_natCast] at c0
      have hrd : rd l0 (k : Int) = l0.getD k 0 := by simp [rd]
      rw [hrd] at c0
      clear hrd
      have HK : Hid (feedK l0 (k + 1) = nextD (feedMix (feedK l0 k) (l0.getD k 0))) := rfl
      generalize feedK l0 k = s at *
      generalize l0.getD k 0 = x at *
      have F1 : FeedAt w0 wr g s wr := ⟨hI.1, hI.2, hB0, KeepBut.refl _ _ _⟩
      have hz1 : (0 : Int) ≤ (k : Int) := by omega
      have hz2 : (k : Int) < (l0.length : Int) := by omega
      go_wp2
      refine wp_region_quiet_tail 14 (by kernel_rfl) (by kernel_rfl) ?_
      simp only [List.take_succ_cons, List.take_zero, List.drop_succ_cons, List.drop_zero]
      intro wd hwd hbd
      have G1 := F1.same hwd hbd
      have u1 := G1.c
      have v1 := G1.b.frozen 0
      have q1 := cell_same' hwd c0
      have Bd := hbd _ _ hBw
      clear hwd hbd
      repeat (go_big_quiet_step (fail))
      refine wpQuiet_nil ?_
      have HN : Hid (∀ W : World, FeedAt w0 wr g (feedMix s x) W → Calls Try.prog 79 #[.pointer (some ⟨g, 0, none⟩)] W fun e w' => e = .returned (.int .u64 (nextV (feedMix s x))) ∧ IsS124 w0 w' g (nextD (feedMix s x)) ∧ Below w0.heap.size w0 w' ∧ KeepBut W w' g none) := fun W F => swarfkit_Feed_next.calls g _ _ _ w0 W ⟨F.b, F.hg⟩ F.hB rfl
      have HF : Hid (FeedAt w0 wr g (feedMix s x) (wd.setCell ⟨g, 0, none⟩ (.int .u64 (feedMix s x)))) := G1.set _
      go_wp2_with (go_at_call 79; refine (HN.out _ HF.out).mono ?_; rintro e w2 ⟨rfl, hI2, hB2, hK2⟩)
      have Bs := Bd.setCell (p := ⟨g, 0, none⟩) (Nat.le_refl _) (.int .u64 (feedMix s x))
      have hB3 : Below g w w2 := ⟨hB2.os.trans hB.os.symm, hB2.tape.trans hB.tape.symm, hB2.output.trans hB.output.symm, Nat.le_trans Bs.size hK2.1, fun j hj => (hK2.2 j (by have := Bs.size; omega) (by omega) (by simp)).trans (Bs.block j hj)⟩
      exact ⟨⟨k + 1, by omega, by push_cast; rfl, by rw [HK.out]; exact hI2, hB2, hB3⟩, by simp [intOf]; omega⟩
    · obtain rfl : k = l0.length := by omega
      go_wp2
      go_ret
      exact ⟨g, rfl, hI, hB0, by rw [hg]; exact hBw⟩
end Go.Proofs.Ytkdlbocjgbmbdaa.Print

namespace Go.Proofs.Ytkdlbocjgbmbdaa.Print
open Go.RowKit Go.Shelf Go.Proofs.YtkdlbocjgbmbdaaW.PrintWords Go.Proofs.Ytkdlbocjgbmbdaa.Pure
set_option linter.unusedVariables false
attribute [local go_sem] Oper.semAt_some
attribute [local go_sem] wide_fn wide_asked
attribute [local go_sem ↓] Go.wp_at_zero Go.wp_at_succ
theorem equalInts_l0 (xs : List Int) (hx : xs.length ≤ 1000) : ∀ (i j k : Nat), i + j = xs.length → i < k → swarfkit_EqualInts.l0 k xs xs true (j : Int) = some true
  | 0, j, k + 1, h, _ => by rw [swarfkit_EqualInts.l0, if_pos rfl, if_neg (by omega)]
  | i + 1, j, k + 1, h, hk => by
    rw [swarfkit_EqualInts.l0, if_pos rfl, if_pos (by omega), if_pos (by omega), if_pos (by omega), w64 _ (by omega), beq_self_eq_true]
    exact equalInts_l0 xs hx i (j + 1) k (by omega) (by omega)
theorem equalInts_self (xs : List Int) (hx : xs.length ≤ 1000) : swarfkit_EqualInts.f (xs.length + 1) xs xs = some true := by
  rw [swarfkit_EqualInts.f, beq_self_eq_true]
  exact equalInts_l0 xs hx xs.length 0 _ (by omega) (by omega)
set_option maxRecDepth 100000 in
set_option maxHeartbeats 16000000 in
theorem payHedged_none (A0 : Option Addr) (c0 : Nat) (l0 : List Int) (w : World) (hr0 : Kd.C (Kd.int .i64) w A0 l0.length l0) (hc0 : l0.length ≤ c0) (r : Int) (hr : swarfkit_FeedOf.f 5 l0 = some r)
    (st : List S24) (lot bound held s' : Int) (hh : swarfkit_HedgeOf.f 5 r 4 5 = some (st, lot, bound, held, s')) (hok : HedgeOk st lot bound held) (hfew : Few st lot bound) (hn : st.length ≤ 4)
    (h0 : never ≤ restF st lot bound st.length held.toNat) :
    Calls Try.prog 13 #[.slice A0 l0.length c0] w fun e w' => e = .returned (.bool true) ∧ Below w.heap.size w w' := by
  have HED : Hid (hedgedR st lot bound held = ([], 0, 13)) := by show _ = _; rw [hedgedR, if_neg (by rw [hedgeE_of hok]; simp), if_pos h0]
  have HPL : Hid (planP st lot bound st.length [] held.toNat 0 ([], never) = ([], never)) := by show _ = _; rw [planP_top hfew, if_neg (by omega)]
  have hheld : (held.toNat : Int) = held := by have := hok.h0; omega
  have hheld2 : held.toNat ≤ 50 := by have := hok.h1; omega
  have HI : ∀ A c, (Try.prog.info? 87).map (·.size) = some (hedgeV A st.length c lot bound held).size := fun _ _ => info87s
  clear hfew h0
  go_enter Try.func13, Try.ntmps13
  go_wp2_with (first
    | (go_at_call 17; refine (swarfkit_FeedOf.calls 5 A0 c0 l0 r w _ (Below.refl _ _) hr0 hc0 hr).mono ?_; rintro e w1 ⟨g, rfl, hI1, hB01, hB1⟩)
    | (go_at_call 54; refine (swarfkit_HedgeOf.calls 5 g r 4 5 st lot bound held s' w w1 hI1 hB01 hh).mono ?_; rintro e w2 ⟨v0, rfl, hR, hI2, hB02, hK2⟩; obtain ⟨A, c, rfl⟩ := Kd.R_slice hR; have hCC := (Kd.R_reads' hR).2.2)
    | (go_at_call 59; refine (Hedged_any A c st lot bound held _ (Kd.C_below hCC (below_alloc (Below.refl _ _) _))).mono ?_; rw [HED.out]; rintro e w4 ⟨v1, rfl, hR4, hB4⟩; obtain ⟨A1, c1, rfl⟩ := Kd.R_slice hR4; have b4 := (((blk_new w2 87 (hedgeV A st.length c lot bound held)).below hB4 (by simp)).alloc (.cells #[.slice none 0 0] 27)).alloc (.cells #[.int .i64 1073741824] 3); have q0 := hv0 b4; have q1 := hv1 b4; have q2 := hv2 b4; have q3 := hv3 b4)
    | (go_at_call 68; refine (plans_any A c st lot bound held hok w4.heap.size w4 (Kd.C_below (Kd.C_below hCC (below_alloc (Below.refl _ _) _)) hB4) (Nat.le_refl _) st.length [] none 0 held.toNat 0 ([], never) _ rfl hheld2 (fun _ => hheld) (fun h => absurd h (by simp)) (by omega) (by omega) (below_alloc (below_alloc (Below.refl _ _) _) _) ⟨Kd.C_nil _ _, fun h => absurd h (by simp)⟩ (by simp) ⟨none, 0, (blk_new w4 27 _).alloc _, ⟨Kd.C_nil _ _, fun h => absurd h (by simp)⟩, by simp, blk_new' (by simp)⟩).mono ?_; rw [HPL.out]; rintro e w6 ⟨rfl, hS6, hK6⟩; obtain ⟨A6, c6, s1, s2, s4, s3⟩ := hS6; have y8 : w6.cell? ⟨w4.heap.size + 1, 0, none⟩ = some (.int .i64 1073741824) := s3.cell 0 rfl)
    | (go_at_call 16; refine (swarflaw08_awake.calls 5 true _ rfl).mono ?_; rintro e w7 ⟨rfl, hB7⟩)
    | fail)
  have L4 : Below w.heap.size w w4 := (below_alloc' hB02 _).trans (hB4.mono (by have := hB02.size; simp; omega))
  have L5 : Below w.heap.size w w6 := hK6.low (below_alloc' (below_alloc' L4 _) _) L4.size
  go_ret
  exact ⟨rfl, L5.trans (hB7.mono L5.size)⟩
set_option maxRecDepth 100000 in
set_option maxHeartbeats 16000000 in
theorem payHedged_some (A0 : Option Addr) (c0 : Nat) (l0 : List Int) (w : World) (hr0 : Kd.C (Kd.int .i64) w A0 l0.length l0) (hc0 : l0.length ≤ c0) (r : Int) (hr : swarfkit_FeedOf.f 5 l0 = some r)
    (st : List S24) (lot bound held s' : Int) (hh : swarfkit_HedgeOf.f 5 r 4 5 = some (st, lot, bound, held, s')) (hok : HedgeOk st lot bound held) (hfew : Few st lot bound) (hn : st.length ≤ 4)
    (h0 : restF st lot bound st.length held.toNat < never) :
    Calls Try.prog 13 #[.slice A0 l0.length c0] w fun e w' => e = .returned (.bool true) ∧ Below w.heap.size w w' := by
  obtain ⟨T, hT⟩ : ∃ T, T = restF st lot bound st.length held.toNat := ⟨_, rfl⟩
  obtain ⟨P, hP⟩ : ∃ P, P = (planK st lot bound held.toNat st.length).1 := ⟨_, rfl⟩
  have hhe : held.toNat < 51 := by have := hok.h1; omega
  have hPn : P.length = st.length := by rw [hP]; exact planK_len _ _
  have HED : Hid (hedgedR st lot bound held = (P, T, 0)) := by show _ = _; rw [hedgedR, if_neg (by rw [hedgeE_of hok]; simp), if_neg (by omega), hP, hT]
  have HPL : Hid (planP st lot bound st.length [] held.toNat 0 ([], never) = (P, T)) := by show _ = _; rw [planP_top hfew, if_pos h0, hP, hT]
  obtain ⟨L, hL⟩ : ∃ L, L = exposL st lot P P.length := ⟨_, rfl⟩
  have hLn : L.length = st.length := by rw [hL, exposL_len, hPn]
  have HEX : Hid (exposedR st lot bound held P = (L, 0)) := by show _ = _; rw [exposedR, if_neg (by rw [hedgeE_of hok]; simp), hPn, if_neg (by simp), hP, badLot_planK hhe h0, if_neg (by simp), ← hP, hL, hPn]
  have HIN : Hid (∀ d, d < st.length → -bound ≤ (L.getD d z24').f0 ∧ (L.getD d z24').f1 ≤ bound) := fun d hd => by
    obtain ⟨l, h1, h2, h3⟩ := planK_in hhe h0 d hd
    rw [hL, exposL_getD P _ d (by omega)]
    rw [← hP] at h2
    dsimp only
    rw [h2]
    simp only [outB, Bool.or_eq_false_iff, decide_eq_false_iff_not] at h3
    omega
  have hT2 : (T == 1073741824) = false := by rw [hT]; unfold never at h0; simp; omega
  have HEQ : Hid (swarfkit_EqualInts.f (P.length + 1) P P = some true) := equalInts_self P (by omega)
  have hcmp : ((L.length : Int) == (P.length : Int)) = true := by simp; omega
  have hcmp2 : ((L.length : Int) != (P.length : Int)) = false := by simp; omega
  have hLmax : L.length ≤ 4 := by omega
  have HPn := Lib.hid hPn
  have HLn := Lib.hid hLn
  clear hT hP hL hPn hLn
  have hheld : (held.toNat : Int) = held := by have := hok.h0; omega
  have hheld2 : held.toNat ≤ 50 := by have := hok.h1; omega
  have HI : ∀ A c, (Try.prog.info? 87).map (·.size) = some (hedgeV A st.length c lot bound held).size := fun _ _ => info87s
  clear hfew h0 hhe
  go_enter Try.func13, Try.ntmps13
  go_wp2_with (first
    | (go_at_call 17; refine (swarfkit_FeedOf.calls 5 A0 c0 l0 r w _ (Below.refl _ _) hr0 hc0 hr).mono ?_; rintro e w1 ⟨g, rfl, hI1, hB01, hB1⟩)
    | (go_at_call 54; refine (swarfkit_HedgeOf.calls 5 g r 4 5 st lot bound held s' w w1 hI1 hB01 hh).mono ?_; rintro e w2 ⟨v0, rfl, hR, hI2, hB02, hK2⟩; obtain ⟨A, c, rfl⟩ := Kd.R_slice hR; have hCC := (Kd.R_reads' hR).2.2)
    | (go_at_call 59; refine (Hedged_any A c st lot bound held _ (Kd.C_below hCC (below_alloc (Below.refl _ _) _))).mono ?_; rw [HED.out]; rintro e w4 ⟨v1, rfl, hR4, hB4⟩; obtain ⟨A1, c1, rfl⟩ := Kd.R_slice hR4; have b4 := (((blk_new w2 87 (hedgeV A st.length c lot bound held)).below hB4 (by simp)).alloc (.cells #[.slice none 0 0] 27)).alloc (.cells #[.int .i64 1073741824] 3); have q0 := hv0 b4; have q1 := hv1 b4; have q2 := hv2 b4; have q3 := hv3 b4)
    | (go_at_call 68; refine (plans_any A c st lot bound held hok w4.heap.size w4 (Kd.C_below (Kd.C_below hCC (below_alloc (Below.refl _ _) _)) hB4) (Nat.le_refl _) st.length [] none 0 held.toNat 0 ([], never) _ rfl hheld2 (fun _ => hheld) (fun h => absurd h (by simp)) (by omega) (by omega) (below_alloc (below_alloc (Below.refl _ _) _) _) ⟨Kd.C_nil _ _, fun h => absurd h (by simp)⟩ (by simp) ⟨none, 0, (blk_new w4 27 _).alloc _, ⟨Kd.C_nil _ _, fun h => absurd h (by simp)⟩, by simp, blk_new' (by simp)⟩).mono ?_; rw [HPL.out]; rintro e w6 ⟨rfl, hS6, hK6⟩; obtain ⟨A6, c6, s1, s2, s4, s3⟩ := hS6; have y8 : w6.cell? ⟨w4.heap.size + 1, 0, none⟩ = some (.int .i64 T) := s3.cell 0 rfl; have b6 := b4.kp hK6 (by have := hB4.size; simp at this; omega) (by have := hB4.size; simp at this; omega); have q0 := hv0 b6; have q1 := hv1 b6; have q2 := hv2 b6; have q3 := hv3 b6)
    | (go_at_call 57; have hB46 : Below w4.heap.size w4 w6 := hK6.low (below_alloc (below_alloc (Below.refl _ _) _) _) (Nat.le_refl _); have hP6 := Kd.C_below (Kd.R_reads' hR4).2.2 hB46; refine (Exposed_any A c st lot bound held A1 c1 P w6 (Kd.C_below (Kd.C_below (Kd.C_below hCC (below_alloc (Below.refl _ _) _)) hB4) hB46) hP6).mono ?_; rw [HEX.out]; rintro e w7 ⟨v7, rfl, hR7, hB7⟩; obtain ⟨A7, c7, rfl⟩ := Kd.R_slice hR7; have hL7 := (Kd.R_reads' hR7).2.2; have hP7 := Kd.C_below hP6 hB7; have hQ7 := Kd.C_below s2.1 hB7; have hc1 := (Kd.R_reads' hR4).2.1; have b7 := b6.below hB7 b6.lt; have z0 := hv2 b7; have z1 : w7.cell? ⟨w4.heap.size, 0, none⟩ = some (.slice A6 P.length c6) := (s1.below hB7 s1.lt).cell 0 rfl; have z2 : w7.cell? ⟨w4.heap.size + 1, 0, none⟩ = some (.int .i64 T) := (s3.below hB7 s3.lt).cell 0 rfl)
    | (go_at_call 46; refine (swarfkit_EqualInts.calls (P.length + 1) A1 c1 P A6 c6 P true w7 hP7 hc1 hQ7 s4 HEQ.out).mono ?_; rintro e w9 ⟨rfl, hD9⟩)
    | (go_at_call 16; refine (swarflaw08_awake.calls 5 true _ rfl).mono ?_; rintro e w7 ⟨rfl, hB7⟩)
    | fail)
  have L4 : Below w.heap.size w w4 := (below_alloc' hB02 _).trans (hB4.mono (by have := hB02.size; simp; omega))
  have L5 : Below w.heap.size w w6 := hK6.low (below_alloc' (below_alloc' L4 _) _) L4.size
  have L7 : Below w.heap.size w w7 := L5.trans (hB7.mono L5.size)
  have hB9 := hD9.below
  clear z0 z1 z2 q0 q1 q2 q3 y8 hD9 hcmp hcmp2 hT2 b4 b6 s1 s2 s3 hK6 hB4 hB7 hR4 hR7 hP7 hQ7
  have hbd0 := hok.b0
  have hbd1 := hok.b1
  go_loopw [11] (fun vi wr => ∃ k : Nat, k ≤ L.length ∧ vi = .int .i64 k ∧ Below w7.heap.size w7 wr) (fun vi _ => L.length - (intOf vi).toNat)
  · exact ⟨0, Nat.zero_le _, rfl, hB9⟩
  · obtain ⟨k, hk, rfl, hBr⟩ := hrel
    have m2 := hv2 (b7.below hBr b7.lt)
    by_cases hlt : k < L.length
    · obtain ⟨ad, hA, p0, p1⟩ := at_T24 (Kd.C_below hL7 hBr) k (by omega) (by omega)
      subst hA
      rw [rd_T24_at L k hlt] at p0 p1
      simp only [Int.toNat_natCast] at p0 p1
      obtain ⟨x, hx⟩ : ∃ x, x = L[k] := ⟨_, rfl⟩
      have hin := HIN.out k (by rw [← HLn.out]; exact hlt)
      rw [List.getD_eq_getElem?_getD, List.getElem?_eq_getElem hlt, Option.getD_some, ← hx] at hin
      rw [← hx] at p0 p1
      clear hx
      have h1 := hin.1
      have h2 := hin.2
      have hd1 : decide (x.f0 < -bound) = false := by simp; omega
      have hd2 : decide (bound < x.f1) = false := by simp; omega
      have hd3 : decide (x.f1 > bound) = false := by simp; omega
      have hng : IntKind.i64.wrap (-bound) = -bound := IntWalk.i64_in _ (by omega)
      have hz1 : (k : Int) < (L.length : Int) := by omega
      go_wp2
      go_quiet (fail)
      go_wp2
      exact ⟨⟨k + 1, by omega, by push_cast; rfl, below_drewN' hBr _⟩, by simp [intOf]; omega⟩
    · obtain rfl : k = L.length := by omega
      go_wp2_with (go_at_call 16; refine (swarflaw08_awake.calls 5 true _ rfl).mono ?_; rintro e w8 ⟨rfl, hB8⟩)
      go_ret
      exact ⟨rfl, (L7.trans (hBr.mono L7.size)).trans (hB8.mono (Nat.le_trans L7.size hBr.size))⟩
theorem swarflaw08_PayHedged.walk (a0 : Option Addr) (len0 cap0 : Nat) (z0 : List Int) (w : World) (w0 : (a0 = none ∧ len0 = 0 ∧ cap0 = 0 ∧ z0 = []) ∨ ∃ x, a0 = some x ∧ len0 ≤ cap0 ∧ cap0 ≤ maxLen ∧ z0.length = cap0 ∧ (∀ i, i < z0.length → w.cell? (x.add i) = some (.int .i64 (z0.getD i 0))) ∧ ∀ n ∈ z0, (Lit.int .i64 n).wf = true) :
    Calls Try.prog 13 #[.slice a0 len0 cap0] w fun e w' => e = .returned (.bool true) ∧ Below w.heap.size w w' := by
  obtain ⟨l0, rfl, hr0, hm0, hw0, hc0⟩ := ReadsInt.ofRowC w0
  obtain ⟨st, lot, bound, held, s', hh, hm, h1, h2⟩ := hedgeOf_some (feedK l0 l0.length) 5 (Nat.le_refl _)
  rcases Int.lt_or_le (restF st lot bound st.length held.toNat) never with h | h
  · exact payHedged_some _ _ l0 w (Kd.C_of_reads (d := (0 : Int)) (h1 := fun _ => rfl) hr0) hc0 _ rfl st lot bound held s' hh (hm.ok h1 h2) hm.few h2 h
  · exact payHedged_none _ _ l0 w (Kd.C_of_reads (d := (0 : Int)) (h1 := fun _ => rfl) hr0) hc0 _ rfl st lot bound held s' hh (hm.ok h1 h2) hm.few h2 h
end Go.Proofs.Ytkdlbocjgbmbdaa.Print
