-- made by wip/tools/myprint.py out of the seat's translation
import Derived.Test.YtnjdepmlpdjghaaPFnAllCountsx0
import Derived.Lib.RowBridge
import Derived.Shelf.Slices.Cells
import Derived.Shelf.Slices.CompactI
import Derived.Shelf.Slices.In.SortNone
import Derived.Shelf.Sort.Plain
import Derived.Test.YtnjdepmlpdjghaaPFnAllCountsx2
import Derived.Test.YtnjdepmlpdjghaaPFnAllCountsx7
import Derived.Test.YtnjdepmlpdjghaaPFnAllCountsx8
namespace Go.Proofs.Ytnjdepmlpdjghaa.PFnAllCounts
open Go.RowKit Go.Proofs.YtnjdepmlpdjghaaW.PrintWords Go.Proofs.YtnjdepmlpdjghaaW.PrintLast Go.Proofs.YtnjdepmlpdjghaaW.PrintMore
attribute [local go_sem] max2_int min2_int max_two min_two max_three min_three max_four min_four   -- for this text's walks alone
set_option linter.unusedVariables false
set_option linter.unusedSimpArgs false
set_option maxHeartbeats 8000000
set_option maxRecDepth 100000

/-! ### slices_Sort_int_int: function 47 -/
def sh.lays189_ren : Go.Shelf.Ren := ⟨fun | 189 => 47 | 125 => 74 | 257 => 73 | 128 => 102 | 129 => 103 | 294 => 93 | 295 => 94 | 296 => 95 | 297 => 96 | 298 => 97 | 299 => 98 | 216 => 99 | 300 => 100 | 301 => 101 | 328 => 118 | 329 => 119 | 330 => 120 | 331 => 121 | 332 => 122 | 215 => 123 | 343 => 130 | n => n, fun | 28 => 24 | 3 => 3 | 46 => 92 | 0 => 0 | 51 => 121 | 53 => 123 | 4 => 4 | 183 => 114 | 182 => 113 | 131 => 87 | 5 => 5 | 9 => 9 | 218 => 134 | 222 => 132 | 228 => 141 | 229 => 142 | n => n, fun | n => n⟩
theorem sh.lays189 : Go.Proofs.Lays.n189 Try.prog sh.lays189_ren := {
 mixed := by kernel_rfl
 f125 := Try.func74.trans (congrArg some (by kernel_rfl))
 f128 := Try.func102.trans (congrArg some (by kernel_rfl))
 f129 := Try.func103.trans (congrArg some (by kernel_rfl))
 f189 := Try.func47.trans (congrArg some (by kernel_rfl))
 f215 := Try.func123.trans (congrArg some (by kernel_rfl))
 f216 := Try.func99.trans (congrArg some (by kernel_rfl))
 f257 := Try.func73.trans (congrArg some (by kernel_rfl))
 f294 := Try.func93.trans (congrArg some (by kernel_rfl))
 f295 := Try.func94.trans (congrArg some (by kernel_rfl))
 f296 := Try.func95.trans (congrArg some (by kernel_rfl))
 f297 := Try.func96.trans (congrArg some (by kernel_rfl))
 f298 := Try.func97.trans (congrArg some (by kernel_rfl))
 f299 := Try.func98.trans (congrArg some (by kernel_rfl))
 f300 := Try.func100.trans (congrArg some (by kernel_rfl))
 f301 := Try.func101.trans (congrArg some (by kernel_rfl))
 f328 := Try.func118.trans (congrArg some (by kernel_rfl))
 f329 := Try.func119.trans (congrArg some (by kernel_rfl))
 f330 := Try.func120.trans (congrArg some (by kernel_rfl))
 f331 := Try.func121.trans (congrArg some (by kernel_rfl))
 f332 := Try.func122.trans (congrArg some (by kernel_rfl))
 f343 := Try.func130.trans (congrArg some (by kernel_rfl))
 t0 := Try.underlying0
 a0 := Try.isAgg0
 z0 := Try.sizeOf0
 v0 := Try.zeroValue0
 t3 := Try.underlying3
 a3 := Try.isAgg3
 z3 := Try.sizeOf3
 v3 := Try.zeroValue3
 t4 := Try.underlying4
 a4 := Try.isAgg4
 z4 := Try.sizeOf4
 v4 := Try.zeroValue4
 t5 := Try.underlying5
 a5 := Try.isAgg5
 z5 := Try.sizeOf5
 v5 := Try.zeroValue5
 t9 := Try.underlying9
 a9 := Try.isAgg9
 z9 := Try.sizeOf9
 v9 := Try.zeroValue9
 t28 := Try.underlying24
 a28 := Try.isAgg24
 z28 := Try.sizeOf24
 v28 := Try.zeroValue24
 t46 := Try.underlying92
 a46 := Try.isAgg92
 z46 := Try.sizeOf92
 v46 := Try.zeroValue92
 t51 := Try.underlying121
 a51 := Try.isAgg121
 z51 := Try.sizeOf121
 v51 := Try.zeroValue121
 t53 := Try.underlying123
 a53 := Try.isAgg123
 z53 := Try.sizeOf123
 v53 := Try.zeroValue123
 t131 := Try.underlying87
 a131 := Try.isAgg87
 z131 := Try.sizeOf87
 v131 := Try.zeroValue87
 t182 := Try.underlying113
 a182 := Try.isAgg113
 z182 := Try.sizeOf113
 v182 := Try.zeroValue113
 t183 := Try.underlying114
 a183 := Try.isAgg114
 z183 := Try.sizeOf114
 v183 := Try.zeroValue114
 t218 := Try.underlying134
 a218 := Try.isAgg134
 z218 := Try.sizeOf134
 v218 := Try.zeroValue134
 t222 := Try.underlying132
 a222 := Try.isAgg132
 z222 := Try.sizeOf132
 v222 := Try.zeroValue132
 t228 := Try.underlying141
 a228 := Try.isAgg141
 z228 := Try.sizeOf141
 v228 := Try.zeroValue141
 t229 := Try.underlying142
 a229 := Try.isAgg142
 z229 := Try.sizeOf142
 v229 := Try.zeroValue142 }
open Go.Sort Go.RowKit in
theorem sh.slices_Sort_int (blk off cap : Nat) (zs : List Int) (w : World) (hH : Holds (Value.int .i64) w blk off zs.toArray) (hblk : blk < w.heap.size) (hsz : zs.length < 4611686018427387904) :
  Calls Try.prog 47 #[.slice (some ⟨blk, off, none⟩) zs.length cap] w fun e w' =>
   e = .returned (.tuple #[]) ∧ ∃ n os, w' = grow (putRow (Value.int .i64) (Sort.ahead w n) blk off (zs.mergeSort fun x y => decide (x ≤ y)).toArray) os := Any.slices_Sort_int sh.lays189 blk off cap zs w hH hblk hsz
open Go.RowKit Go.Sort in
theorem sh.slices_Sort_int_none (p : Option Addr) (cap : Nat) (w : World) :
  Calls Try.prog 47 #[.slice p 0 cap] w fun e w' => e = .returned (.tuple #[]) ∧ w' = w := Any.slices_Sort_int_none sh.lays189 p cap w
/-- A row of whole numbers, laid over. -/
theorem lay_ints {e base g n cap q : Nat} {ok : Nat → Prop} {W W1 : World} {xs ys zs : List Int} (h : (Kd.int .i64).R e W base ok (.slice (some ⟨g, 0, none⟩) n cap) xs) (hl : (ys ++ zs).length = xs.length) (hw : W1 = (W.drewN q).setCells g 0 ((ys ++ zs).map (Value.int .i64))) :
  (Kd.int .i64).R e W1 base ok (.slice (some ⟨g, 0, none⟩) ys.length cap) ys ∧ (∀ B, B ≤ g → Below B W W1) ∧ Kept W W1 (fun k => k = g) := by
 have hok := h.1
 have ho := Kd.own_of_R (show (Kd.scalar (Value.int .i64) (fun _ => rfl)).R e W base ok (.slice (some ⟨g, 0, none⟩) n cap) xs from h)
 obtain ⟨ho1, ho2⟩ := ho
 rcases ho2 with ⟨hv, _⟩ | ⟨g', cap', cur, hv, hb, hh, hnc, hcm, hcs, ht⟩
 ·cases hv
 injection hv with ha _ hc
 injection ha with ha
 injection ha with hg
 subst hg; subst hc
 have hvl : ((ys ++ zs).map (Value.int .i64)).length = xs.length := by rw [List.length_map, hl]
 obtain ⟨cur', h3, h4, h5⟩ := setCells_row ((ys ++ zs).map (Value.int .i64)) 0 (W.drewN q) cur hh (by omega)
 obtain ⟨s1, s2, s3, s4⟩ := setCells_same g ((ys ++ zs).map (Value.int .i64)) 0 (W.drewN q)
 have hfar : ∀ k, k ≠ g → ((W.drewN q).setCells g 0 ((ys ++ zs).map (Value.int .i64))).heap[k]? = W.heap[k]? := fun k hk => setCells_far _ _ k hk
 have hyl : ys.length ≤ xs.length := by rw [List.length_append] at hl; omega
 subst hw
 refine ⟨Kd.R_of_own (h1 := fun _ => rfl) ⟨by simp [encs], .inr ⟨g, cap, cur', rfl, hb, h3, by omega, hcm, by rw [h4, hcs], ?_⟩⟩ (fun k hk => hok k hk), fun B hB => ⟨s1, s2, s3, by rw [s4]; exact Nat.le_refl _, fun k hk => hfar k (by omega)⟩, ⟨by rw [s4]; exact Nat.le_refl _, fun k _ hk => hfar k hk⟩⟩
 rw [h5, Nat.mul_one, List.take_zero, List.nil_append, List.map_append, List.append_assoc, List.take_append_of_le_length (by rw [List.length_map]; exact Nat.le_refl _), List.take_of_length_le (by rw [List.length_map]; exact Nat.le_refl _)]
 rfl
def slices_Sort_int_int.f (l0 : List Int) : Option (List Int) := if l0.length < 4611686018427387904 then some (l0.mergeSort fun x y => decide (x ≤ y)) else none
theorem slices_Sort_int_int.calls (P0_ : Nat → Prop) (u9000_ : Value) (l0 : List Int) (r : List Int) (w0 w : World) (hB : Below w0.heap.size w0 w) (ho0 : Kd.R (Kd.int .i64) 3 w w0.heap.size P0_ u9000_ l0) (h : slices_Sort_int_int.f l0 = some r) :
  Calls Try.prog 47 #[u9000_] w fun e w' => e = .returned (.tuple #[]) ∧ Kd.R (Kd.int .i64) 3 w' w0.heap.size (fun k_ => (P0_ k_ ∨ w.heap.size ≤ k_)) u9000_ r ∧ Below w0.heap.size w0 w' ∧ Kept w w' (fun k_ => P0_ k_) := by
 have hlm : l0.length < 4611686018427387904 := by
  by_cases c : l0.length < 4611686018427387904
  ·exact c
  unfold slices_Sort_int_int.f at h; rw [if_neg c] at h; cases h
 unfold slices_Sort_int_int.f at h
 rw [if_pos hlm] at h
 obtain rfl := Option.some.inj h
 obtain ⟨A, c, hu, hlc, hC⟩ := Kd.R_reads ho0
 rcases Nat.eq_zero_or_pos l0.length with hz | hp
 ·obtain rfl := List.eq_nil_of_length_eq_zero hz
  subst hu
  exact (sh.slices_Sort_int_none A c w).mono fun e w' ⟨he, hw⟩ => by
   subst hw
   exact ⟨he, Kd.R_mono (by simpa using ho0) (fun k hk => .inl hk), hB, Kept.refl _ _⟩
 ·obtain ⟨g, cap, hv, hg1, hg2, _⟩ := Kd.R_form ho0 hp
  subst hv
  have hS : (Kd.scalar (Value.int .i64) (fun _ => rfl)).R 3 w w0.heap.size P0_ (.slice (some ⟨g, 0, none⟩) l0.length cap) l0 := ho0
  have hcell : ∀ j, j < l0.length → w.cell? ⟨g, 0 + j, none⟩ = some (.int .i64 (l0.getD j 0)) ∧ w.frozen? ⟨g, 0 + j, none⟩ = false := fun j hj => by
   have := Kd.R_cell 0 hS (j : Int) (by omega) (by omega)
   rw [Int.toNat_natCast] at this
   rw [Nat.zero_add]; exact this
  have hH : Go.Sort.Holds (Value.int .i64) w g 0 l0.toArray := fun j hj => by
   have hj' : j < l0.length := by simpa using hj
   have := hcell j hj'
   rw [show l0.toArray[j]! = l0.getD j 0 by rw [getElem!_pos l0.toArray j hj]; simp [List.getD, hj']]
   exact this
  refine (sh.slices_Sort_int g 0 cap l0 w hH hg2 (by omega)).mono fun e w' ⟨he, n, os, hw⟩ => ?_
  have hlen : (l0.mergeSort fun x y => decide (x ≤ y)).length = l0.length := List.length_mergeSort _
  have e1 := Go.Lib.putRow_eq_setCells (Value.int .i64) w g 0 l0.toArray (l0.mergeSort fun x y => decide (x ≤ y)) n hH (by simp [hlen])
  rw [e1] at hw
  obtain ⟨h1, h2, h3⟩ := lay_ints (q := n) (ys := l0.mergeSort fun x y => decide (x ≤ y)) (zs := []) ho0 (by simp [hlen]) (by rw [List.append_nil])
  have hgr : Below ((w.drewN n).setCells g 0 ((l0.mergeSort fun x y => decide (x ≤ y)).map (Value.int .i64))).heap.size ((w.drewN n).setCells g 0 ((l0.mergeSort fun x y => decide (x ≤ y)).map (Value.int .i64))) w' := by
   subst hw
   exact ⟨rfl, rfl, rfl, by simp [Go.Sort.grow], fun k hk => by simp [Go.Sort.grow, Array.getElem?_append, hk]⟩
  rw [hlen] at h1
  exact ⟨he, Kd.R_mono (Kd.R_below h1 hgr) (fun k hk => .inl hk), below_step (hB.trans (h2 _ hg1)) hgr, (Kept.then_ (Kept.mono h3 (fun k hk => by subst hk; exact ho0.1 _ rfl)) (S2 := fun _ => False) ⟨hgr.size, fun k hk _ => hgr.block k hk⟩ (fun _ hk => hk.elim))⟩

/-! ### slices_Compact_int_int: function 48 -/
def sh.laysNm220_ren : Go.Shelf.Ren := ⟨fun | 20 => 48 | n => n, fun | 22 => 24 | 3 => 3 | 4 => 4 | 0 => 0 | n => n, fun | n => n⟩
theorem sh.laysNm220 : Go.Proofs.Lays2.n20 Try.prog sh.laysNm220_ren := {
 mixed := by kernel_rfl
 f20 := Try.func48.trans (congrArg some (by kernel_rfl))
 t0 := Try.underlying0
 a0 := Try.isAgg0
 z0 := Try.sizeOf0
 v0 := Try.zeroValue0
 t3 := Try.underlying3
 a3 := Try.isAgg3
 z3 := Try.sizeOf3
 v3 := Try.zeroValue3
 t4 := Try.underlying4
 a4 := Try.isAgg4
 z4 := Try.sizeOf4
 v4 := Try.zeroValue4
 t22 := Try.underlying24
 a22 := Try.isAgg24
 z22 := Try.sizeOf24
 v22 := Try.zeroValue24
 i3 := by kernel_rfl }
open Go.RowKit Go.Lib Go.Sort in
theorem sh.slices_Compact_int_empty (a : Option Addr) (cap : Nat) (w : World) :
  Calls Try.prog 48 #[.slice a 0 cap] w fun e w' => e = .returned (.slice a 0 cap) ∧ w' = w := Any.slices_Compact_int_empty sh.laysNm220 a cap w
open Go.RowKit Go.Lib Go.Sort in
theorem sh.slices_Compact_int_cells (b off n c : Nat) (zs : List Int) (w : World) (hz : n ≤ zs.length) (hbig : n ≤ 9223372036854775807) (hcap : n ≤ c) (hc : ∀ j, j < zs.length → w.cell? ⟨b, off + j, none⟩ = some (.int .i64 (zs.getD j 0))) (hf : ∀ j, j < n → w.frozen? ⟨b, off + j, none⟩ = false) :
  Calls Try.prog 48 #[.slice (some ⟨b, off, none⟩) n c] w fun e w' => e = .returned (.slice (some ⟨b, off, none⟩) (Lib.compact (zs.take n)).length c) ∧ ∃ q, w' = (w.drewN q).setCells b off ((Lib.compact (zs.take n) ++ List.replicate (n - (Lib.compact (zs.take n)).length) 0).map (Value.int .i64)) := Any.slices_Compact_int_cells sh.laysNm220 b off n c zs w hz hbig hcap hc hf
def slices_Compact_int_int.f (l0 : List Int) : Option (List Int) := if 0 < l0.length then some (Go.Lib.compact l0) else some []
theorem slices_Compact_int_int.calls (P0_ : Nat → Prop) (u9000_ : Value) (l0 : List Int) (r : List Int) (w0 w : World) (hB : Below w0.heap.size w0 w) (ho0 : Kd.R (Kd.int .i64) 3 w w0.heap.size P0_ u9000_ l0) (h : slices_Compact_int_int.f l0 = some r) :
  Calls Try.prog 48 #[u9000_] w fun e w' => ∃ v0_ : Value, e = .returned (v0_) ∧ Kd.R (Kd.int .i64) 3 w' w0.heap.size (fun k_ => (P0_ k_ ∨ w.heap.size ≤ k_)) v0_ r ∧ Below w0.heap.size w0 w' ∧ Kept w w' (fun k_ => P0_ k_) := by
 unfold slices_Compact_int_int.f at h
 rcases Nat.eq_zero_or_pos l0.length with hz | hp
 ·rw [if_neg (by omega)] at h
  obtain rfl := Option.some.inj h
  obtain rfl := List.eq_nil_of_length_eq_zero hz
  obtain ⟨A, c, rfl⟩ := Kd.R_slice ho0
  refine (sh.slices_Compact_int_empty A c w).mono fun e w' ⟨he, hw⟩ => ?_
  subst hw
  exact ⟨_, he, Kd.R_mono ho0 (fun k hk => .inl hk), hB, Kept.refl _ _⟩
 rw [if_pos hp] at h
 obtain rfl := Option.some.inj h
 obtain ⟨A, c, hu, hlc, hC⟩ := Kd.R_reads ho0
 obtain ⟨g, cap, hv, hg1, hg2, _⟩ := Kd.R_form ho0 hp
 rw [hv] at hu
 injection hu with hu1 _ hu3
 subst hu3
 subst hv
 have hS : (Kd.scalar (Value.int .i64) (fun _ => rfl)).R 3 w w0.heap.size P0_ (.slice (some ⟨g, 0, none⟩) l0.length cap) l0 := ho0
 have hcell : ∀ j, j < l0.length → w.cell? ⟨g, 0 + j, none⟩ = some (.int .i64 (l0.getD j 0)) ∧ w.frozen? ⟨g, 0 + j, none⟩ = false := fun j hj => by
  have := Kd.R_cell 0 hS (j : Int) (by omega) (by omega)
  rw [Int.toNat_natCast] at this
  rw [Nat.zero_add]; exact this
 refine (sh.slices_Compact_int_cells g 0 l0.length cap l0 w (Nat.le_refl _) hC.2.1 hlc (fun j hj => (hcell j hj).1) (fun j hj => (hcell j hj).2)).mono fun e w' ⟨he, q, hw⟩ => ?_
 rw [List.take_length] at he hw
 have hcl : (Go.Lib.compact l0).length ≤ l0.length := Go.Lib.compact_length_le l0
 obtain ⟨h1, h2, h3⟩ := lay_ints (q := q) ho0 (by rw [List.length_append, List.length_replicate]; omega) hw
 exact ⟨_, he, Kd.R_mono h1 (fun k hk => .inl hk), hB.trans (h2 _ hg1), Kept.mono h3 (fun k hk => by subst hk; exact ho0.1 _ rfl)⟩

/-! ### impl_Finals: function 17 -/
def impl_Finals.l0 : Nat → Int → List Int → List (List Int) → Int → Int → Option (List Int)
 | 0, _, _, _, _, _ => none
 | k + 1, x3, x9, x20, x21, x22 => if x22 < x21 then (if 0 ≤ x22 then (if x22 < (x20.length : Int) then (if 0 ≤ x3 then (if x3 < ((rd_L3 x20 x22).length : Int) then (if x9.length < 17592186044416 then (impl_Finals.l0 k x3 (x9 ++ [rd (rd_L3 x20 x22) x3]) x20 x21 (wrap64 (x22 + 1))) else (none)) else (none)) else (none)) else (none)) else (none)) else ((slices_Sort_int_int.f x9).bind fun t274 => ((slices_Compact_int_int.f t274).bind fun t275 => (some t275)))
def impl_Finals.f (k : Nat) (l0 : List Int) (l1 : List (S29)) (a2 : Int) (a3 : Int) : Option (List Int) := (some (([] : List Int) : List Int)).bind fun y262 => ((impl_isCell.f a3).bind fun t265 => (if t265 = true then ((impl_Ends2.f k l0 l1 a2).bind fun t266 => (impl_Finals.l0 k a3 y262 t266 (t266.length : Int) 0)) else (some y262)))
theorem impl_Finals.mono_l : ∀ k, (∀ y0 y1 y2 y3 y4, LeO (impl_Finals.l0 k y0 y1 y2 y3 y4) (impl_Finals.l0 (k + 1) y0 y1 y2 y3 y4))
 | 0 => fun _ _ _ _ _ r h => by simp [impl_Finals.l0] at h
 | k + 1 => by
  have ih0 := impl_Finals.mono_l k
  ·intros
   unfold impl_Finals.l0
   have mo0 := @impl_Ends2.mono
   exact zL
theorem impl_Finals.mono : ∀ a0 a1 a2 a3 k, LeO (impl_Finals.f k a0 a1 a2 a3) (impl_Finals.f (k + 1) a0 a1 a2 a3) := by
 intro a0 a1 a2 a3 k
 have ih0 := impl_Finals.mono_l k
 unfold impl_Finals.f
 have mo0 := @impl_Ends2.mono
 exact zL
theorem impl_Finals.calls (k : Nat) (A0 : Option Addr) (c0 : Nat) (l0 : List Int) (A1 : Option Addr) (c1 : Nat) (l1 : List (S29)) (a2 : Int) (a3 : Int) (r : List Int) (w : World) (hr0 : Kd.C (Kd.int .i64) w A0 l0.length l0) (hc0 : l0.length ≤ c0) (hr1 : Kd.C k29 w A1 l1.length l1) (hc1 : l1.length ≤ c1) (h : impl_Finals.f k l0 l1 a2 a3 = some r) :
  Calls Try.prog 17 #[.slice A0 l0.length c0, .slice A1 l1.length c1, .int .i64 a2, .int .i64 a3] w fun e w' => ∃ v0_ : Value, e = .returned (v0_) ∧ Kd.R (Kd.int .i64) 3 w' w.heap.size (fun _ => True) v0_ r ∧ Below w.heap.size w w' := by
 have HR0 := zM hr0
 have HC0 := zM hc0
 clear hr0 hc0
 have HR1 := zM hr1
 have HC1 := zM hc1
 clear hr1 hc1
 have HB := zM (Below.refl w.heap.size w)
 unfold impl_Finals.f at h
 have H := h
 clear h
 replace H := zY H
 obtain ⟨y262, Ny262, H⟩ := H
 replace H := zO H
 obtain ⟨t265, A5, H⟩ := H
 by_cases c6 : t265 = true
 rotate_left
 ·replace c6 := Bool.eq_false_iff.mpr c6
  subst c6
  rw [if_neg zF] at H
  obtain rfl := Option.some.inj H
  go_enter Try.func17, Try.ntmps17
  go_wp2_with (first | ((with_reducible refine gate_dst (N := 12) rfl ?_); refine Kd.R_lit (Kd.int .i64) _ 3 ?hg (N := 12) ?hd (xs := ([] : List Int)) (inner := []) (ok := fun _ => True) (okp := fun _ => True) ?hr ?hp (fun _ hk => hk) trivial (Below.refl _ _) (Nat.le_refl _) (by simp) ?_; (case hd => rfl); (case hg => rfl); (case hr => exact zHH); (case hp => exact (Reps.none _ _)); intro v263 w24 ho25 hb hg_ hnew_; clear hg_ hnew_; (first | rw [← Ny262.1] at ho25 | (simp only [Int.reduceToNat] at ho25; rw [← Ny262.1] at ho25)); have HO264 := zM (Kd.R_lower ho25 (below_size zB1)); replace HB := zM (below_step zB1 hb); clear hb ho25) | ((with_reducible refine zG Try.func46 14 #[.int .i64 a3] ?_); (with_reducible refine (impl_isCell.calls a3 false _ A5.1).mono ?_); rintro e w' ⟨rfl, ⟨nd, rfl⟩⟩; refine ⟨_, rfl, ?_⟩))
  go_ret
  exact ⟨_, zE, zR HO264.1, zB1⟩
 subst c6
 rw [if_pos rfl] at H
 replace H := zO H
 obtain ⟨t266, A7, H⟩ := H
 have H' := zM H
 clear H
 go_enter Try.func17, Try.ntmps17
 go_wp2_with (first | ((with_reducible refine gate_dst (N := 12) rfl ?_); refine Kd.R_lit (Kd.int .i64) _ 3 ?hg (N := 12) ?hd (xs := ([] : List Int)) (inner := []) (ok := fun _ => True) (okp := fun _ => True) ?hr ?hp (fun _ hk => hk) trivial (Below.refl _ _) (Nat.le_refl _) (by simp) ?_; (case hd => rfl); (case hg => rfl); (case hr => exact zHH); (case hp => exact (Reps.none _ _)); intro v263 w8 ho9 hb hg_ hnew_; clear hg_ hnew_; (first | rw [← Ny262.1] at ho9 | (simp only [Int.reduceToNat] at ho9; rw [← Ny262.1] at ho9)); have HO264 := zM (Kd.R_lower ho9 (below_size zB1)); replace HB := zM (below_step zB1 hb); clear hb ho9) | ((with_reducible refine zG Try.func46 14 #[.int .i64 a3] ?_); (with_reducible refine (impl_isCell.calls a3 true _ A5.1).mono ?_); rintro e w' ⟨rfl, ⟨nd, rfl⟩⟩; refine ⟨_, rfl, ?_⟩) | ((with_reducible refine zG Try.func24 20 #[.slice A0 l0.length c0, .slice A1 l1.length c1, .int .i64 a2] ?_); (with_reducible refine (impl_Ends2.calls k _ _ l0 _ _ l1 a2 t266 _ ?side1 ?side2 ?side3 ?side4 A7.1).mono ?_); (case side1 => repeat (first | exact (Kd.C_below HR0.1 zB1) | (with_reducible refine Kd.C_alloc ?_ _) | (with_reducible refine Kd.C_drewN ?_ _) | (with_reducible refine Kd.C_drew ?_))); (case side2 => exact HC0.1); (case side3 => repeat (first | exact (Kd.C_below HR1.1 zB1) | (with_reducible refine Kd.C_alloc ?_ _) | (with_reducible refine Kd.C_drewN ?_ _) | (with_reducible refine Kd.C_drew ?_))); (case side4 => exact HC1.1); rintro e w10 ⟨v267, rfl, ho0, hb⟩; refine ⟨_, rfl, ?_⟩; have HO268 := zM (Kd.S_lower (Kd.S_new' ho0 (Kd.R_lt (zR HO264.1))) (below_size zB1)); replace HO264 := zM (Kd.R_below (zR HO264.1) hb); replace HB := zM (below_step zB1 hb); clear hb ho0; obtain ⟨Ao11, co11, eo11⟩ := Kd.S_slice HO268.1; subst eo11))
 go_loopg [9, 22] k (fun kq v9 v22 w' => ∃ (x9_1 : List Int) (x22_1 : Int), v22 = .int .i64 x22_1 ∧ Aside0 (impl_Finals.l0 kq a3 x9_1 t266 (t266.length : Int) x22_1 = some r) ∧ Aside0 (kq ≤ k) ∧ Aside0 (Kd.R (Kd.int .i64) 3 w' w.heap.size (fun _ => True) v9 x9_1) ∧ Aside0 (Kd.S (Kd.slice 3 (Kd.int .i64)) 24 w' w.heap.size (fun k_ => some k_ ≠ (v9 : Value).ownBlock) (.slice Ao11 t266.length co11) t266) ∧ Aside0 (Below w.heap.size w w'))
 case atStart => exact ⟨(y262), (0), zJJ, H', ⟨Nat.le_refl _⟩, ⟨zR HO264.1⟩, ⟨by refine zrS ?_; exact Kd.S_mono HO268.1 (fun _ hk => hk.2)⟩, ⟨zB1⟩⟩
 case round =>
  clear H'
  obtain ⟨x9_1, x22_1, rfl, HA, HK1, HO_9, HO_20, HB⟩ := hrel
  cases gk with
  | zero => exact absurd HA.1 (by simp [impl_Finals.l0])
  | succ k1 =>
   have H := HA.1
   clear HA
   simp only [impl_Finals.l0] at H
   by_cases c12 : x22_1 < (t266.length : Int)
   rotate_left
   ·rw [if_neg c12] at H
    have c12b0 := decide_eq_false c12
    clear c12
    replace H := zO H
    obtain ⟨t274, A19, H⟩ := H
    replace H := zO H
    obtain ⟨t275, A20, H⟩ := H
    obtain rfl := Option.some.inj H
    obtain ⟨Ao21, co21, eo21⟩ := Kd.R_slice HO_9.1
    subst eo21
    go_wp2_with (first | ((with_reducible refine zG Try.func47 35 #[.slice Ao21 x9_1.length co21] ?_); (with_reducible refine (slices_Sort_int_int.calls (fun k_ => some k_ = (.slice Ao21 x9_1.length co21 : Value).ownBlock) (.slice Ao21 x9_1.length co21) x9_1 t274 w _ ?side1 ?side2 A19.1).mono ?_); (case side1 => exact zB1); (case side2 => exact Kd.R_tight rfl HO_9.1); rintro e w22 ⟨rfl, hy0, hb, hkp⟩; refine ⟨_, rfl, ?_⟩; replace HO_9 := zM (Kd.R_reok rfl hy0 (fun k_ e_ => HO_9.1.1 k_ e_)); replace HO_20 := zM (Kd.S_mono (ok' := fun k_ => some k_ ≠ (.slice Ao21 x9_1.length co21 : Value).ownBlock) (Kd.S_keptB (HO_20.1) hkp (fun k_ hk_ hs_ => (hk_) hs_)) (fun k_ hk_ => hk_.1)); replace HB := zM hb; clear hb hkp hy0) | ((with_reducible refine zG Try.func48 37 #[.slice Ao21 x9_1.length co21] ?_); (with_reducible refine (slices_Compact_int_int.calls (fun k_ => some k_ = (.slice Ao21 x9_1.length co21 : Value).ownBlock) (.slice Ao21 x9_1.length co21) t274 t275 w _ ?side1 ?side2 A20.1).mono ?_); (case side1 => exact zB1); (case side2 => exact Kd.R_tight rfl HO_9.1); rintro e w23 ⟨v276, rfl, ho0, hb, hkp⟩; refine ⟨_, rfl, ?_⟩; replace HO_20 := zM (Kd.S_mono (ok' := fun k_ => some k_ ≠ (v276 : Value).ownBlock) (Kd.S_keptB (HO_20.1) hkp (fun k_ hk_ hs_ => (hk_) hs_)) (fun k_ hk_ => fun e_ => Or.elim (ho0.1 k_ e_.symm) (fun hs_ => hk_.2.1 hs_) (fun hn_ => Nat.not_le.2 hk_.2.2 hn_))); have HO277 := zM (Kd.R_mono (ok' := fun k_ => True) ho0 (fun k_ hk_ => trivial)); replace HB := zM hb; clear HO_9; clear hb hkp ho0))
    go_ret
    exact ⟨_, zE, zR HO277.1, zB1⟩
   rw [if_pos c12] at H
   have c12b0 := decide_eq_true c12
   clear c12
   replace H := zIt H
   obtain ⟨c13b0, H⟩ := H
   replace H := zIt H
   obtain ⟨c14b0, H⟩ := H
   replace H := zIt H
   obtain ⟨c15b0, H⟩ := H
   replace H := zIt H
   obtain ⟨c16b0, H⟩ := H
   replace H := zIn H
   obtain ⟨LMc17, H⟩ := H
   generalize hy271 : ((x9_1 ++ [rd (rd_L3 t266 x22_1) a3]) : List Int) = y271 at H
   have Ny271 := zM hy271.symm
   clear hy271
   have H' := zM H
   clear H
   obtain ⟨p269, q269, ad269, A269_0, c269_0, e269, hx269_0, hl269_0, hi269_0⟩ := zRd (at_L3 (Kd.S_reads' HO_20.1).2.2 x22_1)
   cases e269
   obtain ⟨ce269, hce269, hMe269, hcc269⟩ := Kd.S_get HO_20.1 [] x22_1 zA (by first | exact zA | (have e_ := (Kd.S_reads' HO_20.1).1; omega))
   obtain ⟨ve269_0, rfl, ge269_0⟩ := hMe269
   have hv269_0 := hcc269 0 _ rfl
   rw [Nat.add_zero, show ((Kd.slice 3 (Kd.int .i64))).sz = 1 from rfl, Nat.mul_one] at hv269_0
   replace hv269_0 := Option.some.inj (hv269_0.symm.trans hx269_0)
   rw [hv269_0] at ge269_0
   have HL269_0 := zM (show Kd.R (Kd.int .i64) 3 _ _ _ _ (rd_L3 t266 x22_1) from ge269_0)
   clear hv269_0 ge269_0 hcc269 hce269
   have HR269_0 := zM hi269_0
   have HC269_0 := zM hl269_0
   clear hi269_0 hl269_0
   obtain ⟨p270, q270, ad270, e270, hx270_0⟩ := zRd (Kd.at_int (zC HR269_0.1) a3)
   cases e270
   go_wp2_with (first | ((with_reducible refine gate_builtin (b := .append) (xs := #[.tmp 26, .tmp 31]) rfl ?_); at_builtin; refine Kd.R_append (Kd.int .i64) (w0 := w) w.heap.size rfl (.tmp 26) (.tmp 31) 24 3 (.int .i64 0) 8 rfl Try.underlying24 info3 rfl (by decide) (by omega) u9 x9_1 (rd (rd_L3 t266 x22_1) a3) [.int .i64 (rd (rd_L3 t266 x22_1) a3)] (fun _ => True) (fun _ => False) rfl rfl ?aP (fun _ hk => hk.elim) ?aF ?aO ?aB ?aS ?aL ?_; (case aP => exact rfl); (case aB => exact zB1); (case aF => exact (fun _ _ => trivial)); (case aO => exact (zR HO_9.1)); (case aS => exact (below_size zB1)); (case aL => have := LMc17.out; omega); intro v272 w18 ho hb hg hat; rw [← Ny271.1] at ho; replace HO_20 := zM (Kd.S_after (ok := (fun _ => True)) (by refine zrS ?_; exact Kd.S_mono HO_20.1 (fun _ hk => ⟨trivial, hk⟩)) hg hat); replace HL269_0 := zM (Kd.R_after (ok := (fun k_ => some k_ ≠ (.slice (some ad269) t266.length co11 : Value).ownBlock)) (by refine zrR ?_; exact Kd.R_mono HL269_0.1 (fun _ hk => ⟨hk.2, hk.1⟩)) hg hat); replace HB := zM hb; have HO273 := zM ho; clear HO_9; clear ho hb hg hat))
   go_roundg k1
   case measure => have := HK1.1; omega
   case rel => exact ⟨(y271), (wrap64 (x22_1 + 1)), zJJ, H', ⟨by have := HK1.1; omega⟩, ⟨zR HO273.1⟩, ⟨by refine zrS ?_; exact Kd.S_mono HO_20.1 (fun _ hk => hk.2)⟩, ⟨zB1⟩⟩

/-! ### impl_Always: function 15 -/
def impl_Always.f (k : Nat) (l0 : List Int) (l1 : List (S29)) (a2 : Int) (a3 : Int) (a4 : Int) : Option (Bool) := (impl_Finals.f k l0 l1 a2 a3).bind fun t278 => ((slices_Equal_int_int.f k t278 (([a4] : List Int))).bind fun t284 => (some t284))
theorem impl_Always.mono : ∀ a0 a1 a2 a3 a4 k, LeO (impl_Always.f k a0 a1 a2 a3 a4) (impl_Always.f (k + 1) a0 a1 a2 a3 a4) := by
 intro a0 a1 a2 a3 a4 k
 unfold impl_Always.f
 have mo0 := @impl_Finals.mono
 have mo1 := @slices_Equal_int_int.mono
 exact zL
theorem impl_Always.calls (k : Nat) (A0 : Option Addr) (c0 : Nat) (l0 : List Int) (A1 : Option Addr) (c1 : Nat) (l1 : List (S29)) (a2 : Int) (a3 : Int) (a4 : Int) (r : Bool) (w : World) (hr0 : Kd.C (Kd.int .i64) w A0 l0.length l0) (hc0 : l0.length ≤ c0) (hr1 : Kd.C k29 w A1 l1.length l1) (hc1 : l1.length ≤ c1) (h : impl_Always.f k l0 l1 a2 a3 a4 = some r) :
  Calls Try.prog 15 #[.slice A0 l0.length c0, .slice A1 l1.length c1, .int .i64 a2, .int .i64 a3, .int .i64 a4] w fun e w' => e = .returned (.bool r) ∧ Below w.heap.size w w' := by
 have HR0 := zM hr0
 have HC0 := zM hc0
 clear hr0 hc0
 have HR1 := zM hr1
 have HC1 := zM hc1
 clear hr1 hc1
 have HB := zM (Below.refl w.heap.size w)
 unfold impl_Always.f at h
 have H := h
 clear h
 replace H := zO H
 obtain ⟨t278, A6, H⟩ := H
 generalize hy281 : ((([a4] : List Int)) : List Int) = y281 at H
 have Ny281 := zM hy281.symm
 clear hy281
 replace H := zO H
 obtain ⟨t284, A7, H⟩ := H
 obtain rfl := Option.some.inj H
 go_enter Try.func15, Try.ntmps15
 go_wp2_with (first | ((with_reducible refine zG Try.func17 15 #[.slice A0 l0.length c0, .slice A1 l1.length c1, .int .i64 a2, .int .i64 a3] ?_); (with_reducible refine (impl_Finals.calls k _ _ l0 _ _ l1 a2 a3 t278 _ ?side1 ?side2 ?side3 ?side4 A6.1).mono ?_); (case side1 => exact zC HR0.1); (case side2 => exact HC0.1); (case side3 => exact zC HR1.1); (case side4 => exact HC1.1); rintro e w8 ⟨v279, rfl, ho0, hb⟩; refine ⟨_, rfl, ?_⟩; have HO280 := zM (Kd.R_lower ho0 (below_size zB1)); replace HB := zM (below_step zB1 hb); clear hb ho0) | ((with_reducible refine gate_dst (N := 17) rfl ?_); refine Kd.R_lit (Kd.int .i64) _ 3 ?hg (N := 17) ?hd (xs := ([a4] : List Int)) (inner := [.int .i64 a4]) (ok := fun _ => True) (okp := fun _ => True) ?hr ?hp (fun _ hk => hk) trivial (Below.refl _ _) (Nat.le_refl _) (by simp) ?_; (case hd => rfl); (case hg => rfl); (case hr => exact zHH); (case hp => exact (Reps.one (show Kd.M (Kd.int .i64) _ _ _ a4 [.int .i64 a4] from rfl) (Reps.none _ _))); intro v282 w9 ho10 hb hg_ hnew_; clear hg_ hnew_; (first | rw [← Ny281.1] at ho10 | (simp only [Int.reduceToNat] at ho10; rw [← Ny281.1] at ho10)); have HO283 := zM (Kd.R_lower (Kd.R_new' ho10 (Kd.R_lt (zR HO280.1))) (below_size zB1)); replace HO280 := zM (Kd.R_elder' (zR HO280.1) (Kd.R_base ho10) hb); replace HB := zM (below_step zB1 hb); clear hb ho10; obtain ⟨Ao11, co11, eo11⟩ := Kd.R_slice HO280.1; subst eo11; obtain ⟨Ao12, co12, eo12⟩ := Kd.R_slice HO283.1; subst eo12) | ((with_reducible refine zG Try.func45 18 #[.slice Ao11 t278.length co11, .slice Ao12 y281.length co12] ?_); (with_reducible refine (slices_Equal_int_int.calls k _ _ t278 _ _ y281 t284 _ ?side1 ?side2 ?side3 ?side4 A7.1).mono ?_); (case side1 => exact zC (Kd.R_reads' HO280.1).2.2); (case side2 => exact (Kd.R_reads' HO280.1).2.1); (case side3 => exact zC (Kd.R_reads' HO283.1).2.2); (case side4 => exact (Kd.R_reads' HO283.1).2.1); rintro e w' ⟨rfl, ⟨nd, rfl⟩⟩; refine ⟨_, rfl, ?_⟩))
 go_ret
 exact ⟨zE, zB1⟩

/-! ### laws_sameInts: function 16 -/
def laws_sameInts.l0 : Nat → List Int → List Int → Int → Option (Bool)
 | 0, _, _, _ => none
 | k + 1, x0, x1, x5 => if x5 < (x0.length : Int) then (if 0 ≤ x5 then (if x5 < (x1.length : Int) then (if (rd x0 x5) = (rd x1 x5) then (laws_sameInts.l0 k x0 x1 (wrap64 (x5 + 1))) else (some false)) else (none)) else (none)) else (some true)
def laws_sameInts.f (k : Nat) (l0 : List Int) (l1 : List Int) : Option (Bool) := if (l0.length : Int) = (l1.length : Int) then (laws_sameInts.l0 k l0 l1 0) else (some false)
theorem laws_sameInts.mono_l : ∀ k, (∀ y0 y1 y2, LeO (laws_sameInts.l0 k y0 y1 y2) (laws_sameInts.l0 (k + 1) y0 y1 y2))
 | 0 => fun _ _ _ r h => by simp [laws_sameInts.l0] at h
 | k + 1 => by
  have ih0 := laws_sameInts.mono_l k
  ·intros
   unfold laws_sameInts.l0
   exact zL
theorem laws_sameInts.mono : ∀ a0 a1 k, LeO (laws_sameInts.f k a0 a1) (laws_sameInts.f (k + 1) a0 a1) := by
 intro a0 a1 k
 have ih0 := laws_sameInts.mono_l k
 unfold laws_sameInts.f
 exact zL
theorem laws_sameInts.calls (k : Nat) (A0 : Option Addr) (c0 : Nat) (l0 : List Int) (A1 : Option Addr) (c1 : Nat) (l1 : List Int) (r : Bool) (w : World) (hr0 : Kd.C (Kd.int .i64) w A0 l0.length l0) (hc0 : l0.length ≤ c0) (hr1 : Kd.C (Kd.int .i64) w A1 l1.length l1) (hc1 : l1.length ≤ c1) (h : laws_sameInts.f k l0 l1 = some r) :
  Calls Try.prog 16 #[.slice A0 l0.length c0, .slice A1 l1.length c1] w fun e w' => e = .returned (.bool r) ∧ Drawn0 w w' := by
 have HR0 := zM hr0
 have HC0 := zM hc0
 clear hr0 hc0
 have HR1 := zM hr1
 have HC1 := zM hc1
 clear hr1 hc1
 unfold laws_sameInts.f at h
 have H := h
 clear h
 by_cases c3 : (l0.length : Int) = (l1.length : Int)
 rotate_left
 ·rw [if_neg c3] at H
  have c3b0 : ((l0.length : Int) == (l1.length : Int)) = false := beq_eq_false_iff_ne.mpr c3
  have c3b1 : ((l0.length : Int) != (l1.length : Int)) = true := bne_iff_ne.mpr c3
  have c3b2 : (l0.length == l1.length) = false := by first | simpa using c3 | (simp at c3 ⊢; omega)
  obtain rfl := Option.some.inj H
  go_enter Try.func16, Try.ntmps16
  go_wp2
  repeat (go_quiet (fail); try go_wp2)
  go_ret
  exact ⟨zJJ, zDD⟩
 rw [if_pos c3] at H
 have c3b0 : ((l0.length : Int) == (l1.length : Int)) = true := beq_iff_eq.mpr c3
 have c3b1 : ((l0.length : Int) != (l1.length : Int)) = false := bne_eq_false_iff_eq.mpr c3
 have c3b2 : (l0.length == l1.length) = true := by first | simpa using c3 | (simp at c3 ⊢; omega)
 clear c3
 have H' := zM H
 clear H
 go_enter Try.func16, Try.ntmps16
 go_wp2
 repeat (go_quiet (fail); try go_wp2)
 go_loopg [5] k (fun kq v5 w' => ∃ (x5_1 : Int), v5 = .int .i64 x5_1 ∧ Aside0 (laws_sameInts.l0 kq l0 l1 x5_1 = some r) ∧ Aside0 (kq ≤ k) ∧ Drawn0 w w')
 case atStart => exact ⟨(0), zJJ, H', ⟨Nat.le_refl _⟩, zDD⟩
 case round =>
  clear H'
  obtain ⟨x5_1, rfl, HA, HK1, ⟨m1, rfl⟩⟩ := hrel
  cases gk with
  | zero => exact absurd HA.1 (by simp [laws_sameInts.l0])
  | succ k1 =>
   have H := HA.1
   clear HA
   simp only [laws_sameInts.l0] at H
   by_cases c4 : x5_1 < (l0.length : Int)
   rotate_left
   ·rw [if_neg c4] at H
    have c4b0 := decide_eq_false c4
    clear c4
    obtain rfl := Option.some.inj H
    go_wp2
    repeat (go_quiet (fail); try go_wp2)
    go_ret
    exact ⟨zJJ, zDD⟩
   rw [if_pos c4] at H
   have c4b0 := decide_eq_true c4
   clear c4
   replace H := zIt H
   obtain ⟨c5b0, H⟩ := H
   replace H := zIt H
   obtain ⟨c6b0, H⟩ := H
   by_cases c7 : (rd l0 x5_1) = (rd l1 x5_1)
   rotate_left
   ·rw [if_neg c7] at H
    have c7b0 : ((rd l0 x5_1) == (rd l1 x5_1)) = false := beq_eq_false_iff_ne.mpr c7
    have c7b1 : ((rd l0 x5_1) != (rd l1 x5_1)) = true := bne_iff_ne.mpr c7
    obtain rfl := Option.some.inj H
    obtain ⟨p285, q285, ad285, e285, hx285_0⟩ := zRd (Kd.at_int HR0.1 x5_1)
    cases e285
    obtain ⟨p286, q286, ad286, e286, hx286_0⟩ := zRd (Kd.at_int HR1.1 x5_1)
    cases e286
    go_wp2
    repeat (go_quiet (fail); try go_wp2)
    go_ret
    exact ⟨zJJ, zDD⟩
   rw [if_pos c7] at H
   have c7b0 : ((rd l0 x5_1) == (rd l1 x5_1)) = true := beq_iff_eq.mpr c7
   have c7b1 : ((rd l0 x5_1) != (rd l1 x5_1)) = false := bne_eq_false_iff_eq.mpr c7
   clear c7
   have H' := zM H
   clear H
   obtain ⟨p285, q285, ad285, e285, hx285_0⟩ := zRd (Kd.at_int HR0.1 x5_1)
   cases e285
   obtain ⟨p286, q286, ad286, e286, hx286_0⟩ := zRd (Kd.at_int HR1.1 x5_1)
   cases e286
   go_wp2
   repeat (go_quiet (fail); try go_wp2)
   go_roundg k1
   case measure => have := HK1.1; omega
   case rel => exact ⟨(wrap64 (x5_1 + 1)), zJJ, H', ⟨by have := HK1.1; omega⟩, zDD⟩

/-! ### spec_l1In: function 49 -/
def spec_l1In.f (a0 : Int) (a1 : Int) (a2 : Int) : Option (Bool) := if a0 ≥ a1 then (some (decide (a0 ≤ a2))) else (some false)
theorem spec_l1In.calls (a0 : Int) (a1 : Int) (a2 : Int) (r : Bool) (w : World) (h : spec_l1In.f a0 a1 a2 = some r) :
  Calls Try.prog 49 #[.int .i64 a0, .int .i64 a1, .int .i64 a2] w fun e w' => e = .returned (.bool r) ∧ Drawn0 w w' := by
 unfold spec_l1In.f at h
 have H := h
 clear h
 by_cases c4 : a0 ≥ a1
 ·rw [if_pos c4] at H
  have c4b0 := decide_eq_true c4
  clear c4
  obtain rfl := Option.some.inj H
  go_enter Try.func49, Try.ntmps49
  go_wp2
  go_ret
  exact ⟨zJJ, zDD⟩
 rw [if_neg c4] at H
 have c4b0 := decide_eq_false c4
 clear c4
 obtain rfl := Option.some.inj H
 go_enter Try.func49, Try.ntmps49
 go_wp2
 go_ret
 exact ⟨zJJ, zDD⟩

/-! ### spec_l1Words: function 53 -/
def spec_l1Words.l0 : Nat → List Int → Int → Int → Option (Bool)
 | 0, _, _, _ => none
 | k + 1, x0, x1, x5 => if x5 < (x0.length : Int) then (if 0 ≤ x5 then ((spec_l1In.f (rd x0 x5) 0 65535).bind fun t288 => (if t288 = true then (spec_l1Words.l0 k x0 x1 (wrap64 (x5 + 1))) else (some false))) else (none)) else (some ((x0.length : Int) == x1))
def spec_l1Words.f (k : Nat) (l0 : List Int) (a1 : Int) : Option (Bool) := spec_l1Words.l0 k l0 a1 0
theorem spec_l1Words.mono_l : ∀ k, (∀ y0 y1 y2, LeO (spec_l1Words.l0 k y0 y1 y2) (spec_l1Words.l0 (k + 1) y0 y1 y2))
 | 0 => fun _ _ _ r h => by simp [spec_l1Words.l0] at h
 | k + 1 => by
  have ih0 := spec_l1Words.mono_l k
  ·intros
   unfold spec_l1Words.l0
   exact zL
theorem spec_l1Words.mono : ∀ a0 a1 k, LeO (spec_l1Words.f k a0 a1) (spec_l1Words.f (k + 1) a0 a1) := by
 intro a0 a1 k
 have ih0 := spec_l1Words.mono_l k
 unfold spec_l1Words.f
 exact zL
theorem spec_l1Words.calls (k : Nat) (A0 : Option Addr) (c0 : Nat) (l0 : List Int) (a1 : Int) (r : Bool) (w : World) (hr0 : Kd.C (Kd.int .i64) w A0 l0.length l0) (hc0 : l0.length ≤ c0) (h : spec_l1Words.f k l0 a1 = some r) :
  Calls Try.prog 53 #[.slice A0 l0.length c0, .int .i64 a1] w fun e w' => e = .returned (.bool r) ∧ Drawn0 w w' := by
 have HR0 := zM hr0
 have HC0 := zM hc0
 clear hr0 hc0
 unfold spec_l1Words.f at h
 have H := h
 clear h
 have H' := zM H
 clear H
 go_enter Try.func53, Try.ntmps53
 go_wp2
 go_loopg [5] k (fun kq v5 w' => ∃ (x5_1 : Int), v5 = .int .i64 x5_1 ∧ Aside0 (spec_l1Words.l0 kq l0 a1 x5_1 = some r) ∧ Aside0 (kq ≤ k) ∧ Drawn0 w w')
 case atStart => exact ⟨(0), zJJ, H', ⟨Nat.le_refl _⟩, zDD⟩
 case round =>
  clear H'
  obtain ⟨x5_1, rfl, HA, HK1, ⟨m1, rfl⟩⟩ := hrel
  cases gk with
  | zero => exact absurd HA.1 (by simp [spec_l1Words.l0])
  | succ k1 =>
   have H := HA.1
   clear HA
   simp only [spec_l1Words.l0] at H
   by_cases c3 : x5_1 < (l0.length : Int)
   rotate_left
   ·rw [if_neg c3] at H
    have c3b0 := decide_eq_false c3
    clear c3
    obtain rfl := Option.some.inj H
    go_wp2
    go_ret
    exact ⟨zJJ, zDD⟩
   rw [if_pos c3] at H
   have c3b0 := decide_eq_true c3
   clear c3
   replace H := zIt H
   obtain ⟨c4b0, H⟩ := H
   replace H := zO H
   obtain ⟨t288, A5, H⟩ := H
   by_cases c6 : t288 = true
   rotate_left
   ·replace c6 := Bool.eq_false_iff.mpr c6
    subst c6
    rw [if_neg zF] at H
    obtain rfl := Option.some.inj H
    obtain ⟨p287, q287, ad287, e287, hx287_0⟩ := zRd (Kd.at_int HR0.1 x5_1)
    cases e287
    go_wp2_with (first | ((with_reducible refine zG Try.func49 16 #[.int .i64 (rd l0 x5_1), .int .i64 0, .int .i64 65535] ?_); (with_reducible refine (spec_l1In.calls (rd l0 x5_1) 0 65535 false _ A5.1).mono ?_); rintro e w' ⟨rfl, ⟨nd, rfl⟩⟩; refine ⟨_, rfl, ?_⟩))
    go_ret
    exact ⟨zJJ, zDD⟩
   subst c6
   rw [if_pos rfl] at H
   have H' := zM H
   clear H
   obtain ⟨p287, q287, ad287, e287, hx287_0⟩ := zRd (Kd.at_int HR0.1 x5_1)
   cases e287
   go_wp2_with (first | ((with_reducible refine zG Try.func49 16 #[.int .i64 (rd l0 x5_1), .int .i64 0, .int .i64 65535] ?_); (with_reducible refine (spec_l1In.calls (rd l0 x5_1) 0 65535 true _ A5.1).mono ?_); rintro e w' ⟨rfl, ⟨nd, rfl⟩⟩; refine ⟨_, rfl, ?_⟩))
   go_roundg k1
   case measure => have := HK1.1; omega
   case rel => exact ⟨(wrap64 (x5_1 + 1)), zJJ, H', ⟨by have := HK1.1; omega⟩, zDD⟩

/-! ### spec_HartOk: function 52 -/
def spec_HartOk.f (k : Nat) (l0_0 : List Int) (a0_1 : Int) (a0_2 : Int) : Option (Bool) := (spec_l1Words.f k l0_0 4).bind fun t290 => (if t290 = true then ((spec_l1In.f a0_1 0 23).bind fun t291 => (if t291 = true then ((spec_l1In.f a0_2 0 2).bind fun t292 => (some t292)) else (some false))) else (some false))
theorem spec_HartOk.mono : ∀ a0 a1 a2 k, LeO (spec_HartOk.f k a0 a1 a2) (spec_HartOk.f (k + 1) a0 a1 a2) := by
 intro a0 a1 a2 k
 unfold spec_HartOk.f
 have mo0 := @spec_l1Words.mono
 exact zL
theorem spec_HartOk.calls (k : Nat) (A0_0 : Option Addr) (c0_0 : Nat) (l0_0 : List Int) (a0_1 : Int) (a0_2 : Int) (r : Bool) (w : World) (hr0_0 : Kd.C (Kd.int .i64) w A0_0 l0_0.length l0_0) (hc0_0 : l0_0.length ≤ c0_0) (h : spec_HartOk.f k l0_0 a0_1 a0_2 = some r) :
  Calls Try.prog 52 #[.agg #[.slice A0_0 l0_0.length c0_0, .int .i64 a0_1, .int .i64 a0_2]] w fun e w' => e = .returned (.bool r) ∧ Below w.heap.size w w' := by
 have hu29 := Try.underlying29
 have HR0_0 := zM hr0_0
 have HC0_0 := zM hc0_0
 clear hr0_0 hc0_0
 have HB := zM (Below.refl w.heap.size w)
 unfold spec_HartOk.f at h
 have H := h
 clear h
 replace H := zO H
 obtain ⟨t290, A2, H⟩ := H
 by_cases c3 : t290 = true
 rotate_left
 ·replace c3 := Bool.eq_false_iff.mpr c3
  subst c3
  rw [if_neg zF] at H
  obtain rfl := Option.some.inj H
  go_enter Try.func52, Try.ntmps52
  go_wp2_with (first | ((with_reducible refine zBx 1 29 #[.slice A0_0 l0_0.length c0_0, .int .i64 a0_1, .int .i64 a0_2] ?_); intro gb289 hg w11 hbox hb; have BK289 := zM hbox; have GW289 := zM (zW hg (below_size zB1)); have GE289 := zM (zW hg (below_size zB1)); replace HB := zM (below_step zB1 hb); clear hb hbox hg; have hcz12 := zc_3 (w := w11) BK289.1) | ((with_reducible refine zG Try.func53 5 #[.slice A0_0 l0_0.length c0_0, .int .i64 4] ?_); (with_reducible refine (spec_l1Words.calls k _ _ l0_0 4 false _ ?side1 ?side2 A2.1).mono ?_); (case side1 => exact zC (Kd.C_below HR0_0.1 HB.1)); (case side2 => exact HC0_0.1); rintro e w' ⟨rfl, ⟨nd, rfl⟩⟩; refine ⟨_, rfl, ?_⟩))
  go_ret
  exact ⟨zE, zB1⟩
 subst c3
 rw [if_pos rfl] at H
 replace H := zO H
 obtain ⟨t291, A4, H⟩ := H
 by_cases c5 : t291 = true
 rotate_left
 ·replace c5 := Bool.eq_false_iff.mpr c5
  subst c5
  rw [if_neg zF] at H
  obtain rfl := Option.some.inj H
  go_enter Try.func52, Try.ntmps52
  go_wp2_with (first | ((with_reducible refine zBx 1 29 #[.slice A0_0 l0_0.length c0_0, .int .i64 a0_1, .int .i64 a0_2] ?_); intro gb289 hg w9 hbox hb; have BK289 := zM hbox; have GW289 := zM (zW hg (below_size zB1)); have GE289 := zM (zW hg (below_size zB1)); replace HB := zM (below_step zB1 hb); clear hb hbox hg; have hcz10 := zc_3 (w := w9) BK289.1) | ((with_reducible refine zG Try.func53 5 #[.slice A0_0 l0_0.length c0_0, .int .i64 4] ?_); (with_reducible refine (spec_l1Words.calls k _ _ l0_0 4 true _ ?side1 ?side2 A2.1).mono ?_); (case side1 => exact zC (Kd.C_below HR0_0.1 HB.1)); (case side2 => exact HC0_0.1); rintro e w' ⟨rfl, ⟨nd, rfl⟩⟩; refine ⟨_, rfl, ?_⟩) | (go_at_call 49; (with_reducible refine (spec_l1In.calls a0_1 0 23 false _ A4.1).mono ?_); rintro e w' ⟨rfl, ⟨nd, rfl⟩⟩))
  go_ret
  exact ⟨zE, zB1⟩
 subst c5
 rw [if_pos rfl] at H
 replace H := zO H
 obtain ⟨t292, A6, H⟩ := H
 obtain rfl := Option.some.inj H
 go_enter Try.func52, Try.ntmps52
 go_wp2_with (first | ((with_reducible refine zBx 1 29 #[.slice A0_0 l0_0.length c0_0, .int .i64 a0_1, .int .i64 a0_2] ?_); intro gb289 hg w7 hbox hb; have BK289 := zM hbox; have GW289 := zM (zW hg (below_size zB1)); have GE289 := zM (zW hg (below_size zB1)); replace HB := zM (below_step zB1 hb); clear hb hbox hg; have hcz8 := zc_3 (w := w7) BK289.1) | ((with_reducible refine zG Try.func53 5 #[.slice A0_0 l0_0.length c0_0, .int .i64 4] ?_); (with_reducible refine (spec_l1Words.calls k _ _ l0_0 4 true _ ?side1 ?side2 A2.1).mono ?_); (case side1 => exact zC (Kd.C_below HR0_0.1 HB.1)); (case side2 => exact HC0_0.1); rintro e w' ⟨rfl, ⟨nd, rfl⟩⟩; refine ⟨_, rfl, ?_⟩) | (go_at_call 49; (with_reducible refine (spec_l1In.calls a0_1 0 23 true _ A4.1).mono ?_); rintro e w' ⟨rfl, ⟨nd, rfl⟩⟩) | (go_at_call 49; (with_reducible refine (spec_l1In.calls a0_2 0 2 t292 _ A6.1).mono ?_); rintro e w' ⟨rfl, ⟨nd, rfl⟩⟩))
 go_ret
 exact ⟨zE, zB1⟩

/-! ### spec_l9Copy: function 104 -/
def spec_l9Copy.f (l0_0 : List Int) (a0_1 : Int) (a0_2 : Int) : Option (List Int × Int × Int) := (some (([] : List Int) : List Int)).bind fun y295 => (if y295.length + l0_0.length < 17592186044416 then (some ((y295 ++ l0_0), a0_1, a0_2)) else (none))
theorem spec_l9Copy.calls (A0_0 : Option Addr) (c0_0 : Nat) (l0_0 : List Int) (a0_1 : Int) (a0_2 : Int) (r1 : List Int) (r2 : Int) (r3 : Int) (w : World) (hr0_0 : Kd.C (Kd.int .i64) w A0_0 l0_0.length l0_0) (hc0_0 : l0_0.length ≤ c0_0) (h : spec_l9Copy.f l0_0 a0_1 a0_2 = some (r1, r2, r3)) :
  Calls Try.prog 104 #[.agg #[.slice A0_0 l0_0.length c0_0, .int .i64 a0_1, .int .i64 a0_2]] w fun e w' => ∃ v0_ : Value, e = .returned (.agg #[v0_, .int .i64 r2, .int .i64 r3]) ∧ Kd.R (Kd.int .i64) 3 w' w.heap.size (fun _ => True) v0_ r1 ∧ Below w.heap.size w w' := by
 have hu29 := Try.underlying29
 have HR0_0 := zM hr0_0
 have HC0_0 := zM hc0_0
 clear hr0_0 hc0_0
 have HB := zM (Below.refl w.heap.size w)
 unfold spec_l9Copy.f at h
 have H := h
 clear h
 replace H := zY H
 obtain ⟨y295, Ny295, H⟩ := H
 replace H := zIn H
 obtain ⟨LMc2, H⟩ := H
 generalize hy298 : ((y295 ++ l0_0) : List Int) = y298 at H
 have Ny298 := zM hy298.symm
 clear hy298
 simp only [Option.some.injEq, Prod.mk.injEq] at H
 obtain ⟨rfl, rfl, rfl⟩ := H
 go_enter Try.func104, Try.ntmps104
 go_wp2_with (first | ((with_reducible refine zBx 1 29 #[.slice A0_0 l0_0.length c0_0, .int .i64 a0_1, .int .i64 a0_2] ?_); intro gb293 hg w3 hbox hb; have BK293 := zM hbox; have GW293 := zM (zW hg (below_size zB1)); have GE293 := zM (zW hg (below_size zB1)); replace HB := zM (below_step zB1 hb); clear hb hbox hg) | ((with_reducible refine zBx 2 29 #[.slice none 0 0, .int .i64 0, .int .i64 0] ?_); intro gb294 hg w4 hbox hb; have BK294 := zM hbox; have GW294 := zM (zW hg (below_size zB1)); have GE294 := zM (zW hg (below_size zB1)); replace HB := zM (below_step zB1 hb); have NB293_294 := zM ((zn BK293.1 hg : gb293 ≠ gb294)); have NB294_293 := zM ((zm BK293.1 hg : gb294 ≠ gb293)); replace BK293 := zM (zb BK293.1 hb); clear hb hbox hg) | ((with_reducible refine gate_dst (N := 3) rfl ?_); refine Kd.R_lit (Kd.int .i64) _ 3 ?hg (N := 3) ?hd (xs := ([] : List Int)) (inner := []) (ok := fun _ => True) (okp := fun _ => True) ?hr ?hp (fun _ hk => hk) trivial (Below.refl _ _) (Nat.le_refl _) (by simp) ?_; (case hd => rfl); (case hg => rfl); (case hr => exact zHH); (case hp => exact (Reps.none _ _)); intro v296 w5 ho6 hb hg_ hnew_; clear hg_ hnew_; (first | rw [← Ny295.1] at ho6 | (simp only [Int.reduceToNat] at ho6; rw [← Ny295.1] at ho6)); have HO297 := zM (Kd.R_lower ho6 (below_size zB1)); replace BK293 := zM (zb BK293.1 hb); replace BK294 := zM (zb BK294.1 hb); replace HB := zM (below_step zB1 hb); clear hb ho6; have hnb7 := NB293_294.1; have hnc7 := NB294_293.1; have hcz8 := zc_3 (w := w5) BK293.1) | ((with_reducible refine gate_builtin (b := .append) (xs := #[.tmp 3, .tmp 5]) rfl ?_); at_builtin; refine Kd.R_append_rows (Kd.int .i64) (w0 := w) w.heap.size rfl (.tmp 3) (.tmp 5) 24 3 (.int .i64 0) 8 rfl Try.underlying24 info3 rfl (by decide) (by omega) v296 y295 l0_0 _ _ _ (fun _ => True) (fun _ => False) rfl rfl ?aO ?aR (fun _ _ h => h) (fun _ h => h.elim) ?aF ?aB ?aS ?aL ?_; (case aR => exact zC (Kd.C_below HR0_0.1 HB.1)); (case aB => exact zB1); (case aF => exact (fun _ _ => trivial)); (case aO => exact (zR HO297.1)); (case aS => exact (below_size zB1)); (case aL => have := LMc2.out; omega); intro v299 w9 ho hb hg hat; rw [← Ny298.1] at ho; replace BK293 := zM (zg BK293.1 hg (Kd.R_ne HO297.1 BK293.1 (by decide))); replace BK294 := zM (zg BK294.1 hg (Kd.R_ne HO297.1 BK294.1 (by decide))); replace HB := zM hb; have HO300 := zM ho; clear HO297; clear ho hb hg hat; obtain ⟨Ao10, co10, eo10⟩ := Kd.R_slice HO300.1; subst eo10; have hcz11 := zc_3 (w := w9) BK293.1; have hcz12 := zc_3 (w := w9) BK294.1))
 refine bodyPost_ret (results_cell_row rfl _ _ gb294 29 #[.slice Ao10 y298.length co10, .int .i64 a0_1, .int .i64 a0_2] (0, 0) _ rfl zPq Try.underlying29 rfl (by kernel_rfl)) rfl ?_
 exact ⟨_, zE, by refine zrR ?_; exact Kd.R_mono (zfR (zfR (zfR (zgR (Kd.R_types (Kd.R_types HO300.1 BK293.1 (by decide)) BK294.1 (by decide)))))) (fun _ hk => trivial), zB1⟩

end Go.Proofs.Ytnjdepmlpdjghaa.PFnAllCounts
