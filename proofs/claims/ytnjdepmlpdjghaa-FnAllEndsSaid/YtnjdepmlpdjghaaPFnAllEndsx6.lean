-- made by wip/tools/myprint.py out of the seat's translation
import Derived.Test.YtnjdepmlpdjghaaPFnAllEndsx0
import Derived.Test.YtnjdepmlpdjghaaPFnAllEndsx2
import Derived.Test.YtnjdepmlpdjghaaPFnAllEndsx5
namespace Go.Proofs.Ytnjdepmlpdjghaa.PFnAllEnds
open Go.RowKit Go.Proofs.YtnjdepmlpdjghaaW.PrintWords Go.Proofs.YtnjdepmlpdjghaaW.PrintLast Go.Proofs.YtnjdepmlpdjghaaW.PrintMore
attribute [local go_sem] max2_int min2_int max_two min_two max_three min_three max_four min_four   -- for this text's walks alone
set_option linter.unusedVariables false
set_option linter.unusedSimpArgs false
set_option maxHeartbeats 8000000
set_option maxRecDepth 100000

/-! ### spec_l29Same: function 78 -/
mutual
def spec_l29Same.l0 : Nat → List Int → List Int → Int → Option (Bool)
 | 0, _, _, _ => none
 | k + 1, x0, x1, x5 => if x5 < (x0.length : Int) then (spec_l29Same.j1 k x0 x1 x5 (decide (x5 < (x1.length : Int)))) else (spec_l29Same.j1 k x0 x1 x5 false)
def spec_l29Same.j1 : Nat → List Int → List Int → Int → Bool → Option (Bool)
 | 0, _, _, _, _ => none
 | k + 1, x0, x1, x5, x15 => if x15 = true then (if 0 ≤ x5 then (if x5 < (x0.length : Int) then (if x5 < (x1.length : Int) then (if (rd x0 x5) = (rd x1 x5) then (spec_l29Same.l0 k x0 x1 (wrap64 (x5 + 1))) else (some false)) else (none)) else (none)) else (none)) else (some ((x0.length : Int) == (x1.length : Int)))
end
def spec_l29Same.f (k : Nat) (l0 : List Int) (l1 : List Int) : Option (Bool) := spec_l29Same.l0 k l0 l1 0
theorem spec_l29Same.mono_l : ∀ k, (∀ y0 y1 y2, LeO (spec_l29Same.l0 k y0 y1 y2) (spec_l29Same.l0 (k + 1) y0 y1 y2)) ∧ (∀ y0 y1 y2 y3, LeO (spec_l29Same.j1 k y0 y1 y2 y3) (spec_l29Same.j1 (k + 1) y0 y1 y2 y3))
 | 0 => ⟨fun _ _ _ r h => by simp [spec_l29Same.l0] at h, fun _ _ _ _ r h => by simp [spec_l29Same.j1] at h⟩
 | k + 1 => by
  obtain ⟨ih0, ih1⟩ := spec_l29Same.mono_l k
  refine ⟨?_, ?_⟩
  ·intros
   unfold spec_l29Same.l0
   exact zL
  ·intros
   unfold spec_l29Same.j1
   exact zL
theorem spec_l29Same.mono : ∀ a0 a1 k, LeO (spec_l29Same.f k a0 a1) (spec_l29Same.f (k + 1) a0 a1) := by
 intro a0 a1 k
 obtain ⟨ih0, ih1⟩ := spec_l29Same.mono_l k
 unfold spec_l29Same.f
 exact zL
theorem spec_l29Same.calls (k : Nat) (A0 : Option Addr) (c0 : Nat) (l0 : List Int) (A1 : Option Addr) (c1 : Nat) (l1 : List Int) (r : Bool) (w : World) (hr0 : Kd.C (Kd.int .i64) w A0 l0.length l0) (hc0 : l0.length ≤ c0) (hr1 : Kd.C (Kd.int .i64) w A1 l1.length l1) (hc1 : l1.length ≤ c1) (h : spec_l29Same.f k l0 l1 = some r) :
  Calls Try.prog 78 #[.slice A0 l0.length c0, .slice A1 l1.length c1] w fun e w' => e = .returned (.bool r) ∧ Drawn0 w w' := by
 have HR0 := zM hr0
 have HC0 := zM hc0
 clear hr0 hc0
 have HR1 := zM hr1
 have HC1 := zM hc1
 clear hr1 hc1
 unfold spec_l29Same.f at h
 have H := h
 clear h
 have H' := zM H
 clear H
 go_enter Try.func78, Try.ntmps78
 go_wp2
 repeat (go_quiet (fail); try go_wp2)
 go_loopg [5] k (fun kq v5 w' => ∃ (x5_1 : Int), v5 = .int .i64 x5_1 ∧ Aside0 (spec_l29Same.l0 kq l0 l1 x5_1 = some r) ∧ Aside0 (kq ≤ k) ∧ Drawn0 w w')
 case atStart => exact ⟨(0), zJJ, H', ⟨Nat.le_refl _⟩, zDD⟩
 case round =>
  clear H'
  obtain ⟨x5_1, rfl, HA, HK1, ⟨m1, rfl⟩⟩ := hrel
  cases gk with
  | zero => exact absurd HA.1 (by simp [spec_l29Same.l0])
  | succ k1 =>
   have H := HA.1
   clear HA
   simp only [spec_l29Same.l0] at H
   have HC3 := zM H
   clear H
   go_upto_region 2 with (fail)
   repeat (go_quiet (fail); go_upto_region 2 with (fail))
   go_cut [15] (fun v15 wc => ∃ (kq : Nat) (x15_2 : Bool), v15 = .bool x15_2 ∧ Aside0 (spec_l29Same.j1 kq l0 l1 x5_1 x15_2 = some r) ∧ Aside0 (kq ≤ k1) ∧ Drawn0 w wc)
   case first =>
    have H := HC3.1
    clear HC3
    by_cases c4 : x5_1 < (l0.length : Int)
    rotate_left
    ·rw [if_neg c4] at H
     have c4b0 := decide_eq_false c4
     clear c4
     (first | rw [c4b0] | (simp only [i64_w, i32_w]; rw [c4b0]) | skip)
     have H' := zM H
     clear H
     go_wp2
     repeat (go_quiet (fail); try go_wp2)
     go_meet
     case rel => exact ⟨_, (false), zJJ, H', ⟨by have := HK1.1; first | omega | exact Nat.le_refl _⟩, zDD⟩
    rw [if_pos c4] at H
    have c4b0 := decide_eq_true c4
    clear c4
    (first | rw [c4b0] | (simp only [i64_w, i32_w]; rw [c4b0]) | skip)
    have H' := zM H
    clear H
    go_wp2
    repeat (go_quiet (fail); try go_wp2)
    go_meet
    case rel => exact ⟨_, (decide (x5_1 < (l1.length : Int))), zJJ, H', ⟨by have := HK1.1; first | omega | exact Nat.le_refl _⟩, zDD⟩
   case rest =>
    clear HC3
    obtain ⟨kq, x15_2, rfl, HA, HJ2, ⟨mc2, rfl⟩⟩ := hcut
    cases kq with
    | zero => exact absurd HA.1 (by simp [spec_l29Same.j1])
    | succ kj2 =>
     have H := HA.1
     clear HA
     simp only [spec_l29Same.j1] at H
     by_cases c5 : x15_2 = true
     rotate_left
     ·replace c5 := Bool.eq_false_iff.mpr c5
      subst c5
      rw [if_neg zF] at H
      obtain rfl := Option.some.inj H
      go_wp2
      repeat (go_quiet (fail); try go_wp2)
      go_ret
      exact ⟨zJJ, zDD⟩
     subst c5
     rw [if_pos rfl] at H
     replace H := zIt H
     obtain ⟨c6b0, H⟩ := H
     replace H := zIt H
     obtain ⟨c7b0, H⟩ := H
     replace H := zIt H
     obtain ⟨c8b0, H⟩ := H
     by_cases c9 : (rd l0 x5_1) = (rd l1 x5_1)
     rotate_left
     ·rw [if_neg c9] at H
      have c9b0 : ((rd l0 x5_1) == (rd l1 x5_1)) = false := beq_eq_false_iff_ne.mpr c9
      have c9b1 : ((rd l0 x5_1) != (rd l1 x5_1)) = true := bne_iff_ne.mpr c9
      obtain rfl := Option.some.inj H
      obtain ⟨p211, q211, ad211, e211, hx211_0⟩ := zRd (Kd.at_int HR0.1 x5_1)
      cases e211
      obtain ⟨p212, q212, ad212, e212, hx212_0⟩ := zRd (Kd.at_int HR1.1 x5_1)
      cases e212
      go_wp2
      repeat (go_quiet (fail); try go_wp2)
      go_ret
      exact ⟨zJJ, zDD⟩
     rw [if_pos c9] at H
     have c9b0 : ((rd l0 x5_1) == (rd l1 x5_1)) = true := beq_iff_eq.mpr c9
     have c9b1 : ((rd l0 x5_1) != (rd l1 x5_1)) = false := bne_eq_false_iff_eq.mpr c9
     clear c9
     have H' := zM H
     clear H
     obtain ⟨p211, q211, ad211, e211, hx211_0⟩ := zRd (Kd.at_int HR0.1 x5_1)
     cases e211
     obtain ⟨p212, q212, ad212, e212, hx212_0⟩ := zRd (Kd.at_int HR1.1 x5_1)
     cases e212
     go_wp2
     repeat (go_quiet (fail); try go_wp2)
     go_roundg kj2
     case measure => have := HK1.1; have := HJ2.1; omega
     case rel => exact ⟨(wrap64 (x5_1 + 1)), zJJ, H', ⟨by have := HK1.1; have := HJ2.1; omega⟩, zDD⟩

-- NOT PRINTED: function 54 (spec_l29Go)

/-! ### spec_Ends2: function 21 -/
/-- The first row for which p holds. -/
def findR (p : List Int → Option Bool) : List (List Int) → Nat → Option Int
 | [], _ => some (-1)
 | c :: r, i => (p c).bind fun b => if b = true then some (i : Int) else findR p r (i + 1)
theorem findR_drop (p : List Int → Option Bool) (l : List (List Int)) (i : Nat) (h : i < l.length) : findR p (l.drop i) i = (p (l.getD i [])).bind fun b => if b = true then some (i : Int) else findR p (l.drop (i + 1)) (i + 1) := by
 have e : l.getD i [] = l[i] := by simp [List.getD, h]
 rw [List.drop_eq_getElem_cons h, findR, e]
theorem findR_mono {p q : List Int → Option Bool} (h : ∀ c, LeO (p c) (q c)) : ∀ (l : List (List Int)) (i : Nat), LeO (findR p l i) (findR q l i)
 | [], _ => LeO.refl _
 | c :: r, i => by
  unfold findR
  refine LeO.bind (h c) (fun b => ?_)
  refine LeO.ite (LeO.refl _) (findR_mono h r (i + 1))
theorem row_at {t : Nat} {w : World} {A : Option Addr} {n : Nat} {xs : List (List Int)} (h : Kd.C (Kd.slice t (Kd.int .i64)) w A n xs) (i : Nat) (h1 : i < n) : ∃ ad A0 c0, A = some ad ∧ w.cell? (ad.add i) = some (.slice A0 (xs.getD i ([] : List Int)).length c0) ∧ (xs.getD i ([] : List Int)).length ≤ c0 ∧ (Kd.int .i64).C w A0 (xs.getD i ([] : List Int)).length (xs.getD i ([] : List Int)) := by
 obtain ⟨ad, c, e, _, hK, hc0⟩ := Kd.C_get h ([] : List Int) (i : Int) (by omega) (by omega)
 have hc : ∀ j u, c[j]? = some u → w.cell? (ad.add (i * 1 + j)) = some u := hc0
 obtain ⟨A0, c0, rfl, l0, g0⟩ := hK
 exact ⟨ad, A0, c0, e, by have hq := hc 0 _ rfl; rwa [Nat.mul_one, Nat.add_zero] at hq, l0, g0⟩
theorem at_FH {w : World} {ok : Nat → Prop} {A : Option Addr} {n : Nat} {xs : List S29} (h : Kd.F k29 w ok A n xs) (i : Nat) (h1 : i < n) : ∃ ad A0 c0, A = some ad ∧ w.cell? (ad.add (i * 3)) = some (.slice A0 (rd_T29 xs i).f0.length c0) ∧ w.cell? ⟨(ad.add (i * 3)).block, (ad.add (i * 3)).off + 1, none⟩ = some (.int .i64 (rd_T29 xs i).f1) ∧ w.cell? ⟨(ad.add (i * 3)).block, (ad.add (i * 3)).off + 2, none⟩ = some (.int .i64 (rd_T29 xs i).f2) ∧ (rd_T29 xs i).f0.length ≤ c0 ∧ Kd.F (Kd.int .i64) w ok A0 (rd_T29 xs i).f0.length (rd_T29 xs i).f0 := by
 obtain ⟨ad, c, e, _, hK, hc0, _⟩ := Kd.F_get h z29 (i : Int) (by omega) (by omega)
 have hc : ∀ j u, c[j]? = some u → w.cell? (ad.add (i * 3 + j)) = some u := hc0
 obtain ⟨A0, c0, rfl, l0, g0⟩ := k29_openF hK
 exact ⟨ad, A0, c0, e, hc 0 _ rfl, by rw [← add_field _ _ 1 (by omega)]; exact hc 1 _ rfl, by rw [← add_field _ _ 2 (by omega)]; exact hc 2 _ rfl, l0, g0⟩
/-- A struct of three cells, just made, is written. -/
theorem three_set {w w1 : World} {gh : Nat} {a b c a0 b0 c0 : Value} {t : Nat} (hw : w1 = ((w.setCell ⟨gh, 0, none⟩ a).setCell ⟨gh, 1, none⟩ b).setCell ⟨gh, 2, none⟩ c) (hb : w.heap[gh]? = some (.cells #[a0, b0, c0] t (0, 0))) {B : Nat} {wB : World} (hB : Below B wB w) (hg : B ≤ gh) : w1.heap[gh]? = some (.cells #[a, b, c] t (0, 0)) ∧ Below B wB w1 := by
 subst hw
 refine ⟨?_, ((hB.setCell hg _).setCell hg _).setCell hg _⟩
 exact blk_put (cs := #[a, b, c0]) (blk_put (cs := #[a, b0, c0]) (blk_put hb 0 a rfl) 1 b rfl) 2 c rfl
theorem heap_kH : Kd.Heap k29 := Kd.heap_iso _ (Kd.heap_pair (Kd.heap_slice 3 (Kd.heap_int .i64)) (Kd.heap_pair (Kd.heap_int .i64) (Kd.heap_int .i64)))
/-- What a round of l29Go knows. -/
structure GL (w0 w1 W : World) (v1 v : Value) (outs : List (List Int)) (A0 : Option Addr) (l0 : List Int) (A1 : Option Addr) (l1 : List S29) : Prop where
 so : Kd.S (Kd.slice 3 (Kd.int .i64)) 24 W w0.heap.size (fun _ => True) v outs
 hm : Kd.F (Kd.int .i64) W (fun k => some k ≠ v.ownBlock) A0 l0.length l0
 hh : Kd.F k29 W (fun k => some k ≠ v.ownBlock) A1 l1.length l1
 kp : Kept w1 W (fun k => some k = v1.ownBlock)
 hat : v.ownBlock = v1.ownBlock ∨ ∃ b, v.ownBlock = some b ∧ w1.heap.size ≤ b
 bl : Below w0.heap.size w0 W
section
variable {w0 w w1 W W2 : World} {v1 v v' : Value} {outs outs' : List (List Int)} {A0 A1 : Option Addr} {l0 : List Int} {l1 : List S29}
theorem GL.below (h : GL w0 w1 W v1 v outs A0 l0 A1 l1) (hb : Below W.heap.size W W2) : GL w0 w1 W2 v1 v outs A0 l0 A1 l1 :=
 ⟨Kd.S_below h.so hb, Kd.F_below h.hm hb, Kd.F_below h.hh hb, h.kp.below hb, h.hat, below_step h.bl hb⟩
theorem GL.after (h : GL w0 w1 W v1 v outs A0 l0 A1 l1) (hs : Kd.S (Kd.slice 3 (Kd.int .i64)) 24 W2 w0.heap.size (fun _ => True) v' outs') (hat : v'.ownBlock = v.ownBlock ∨ ∃ b, v'.ownBlock = some b ∧ W.heap.size ≤ b) (kp : Kept W W2 (fun k => some k = v.ownBlock)) (hb : Below w0.heap.size w0 W2) :
  GL w0 w1 W2 v1 v' outs' A0 l0 A1 l1 := by
 have hn : ∀ k, some k ≠ v.ownBlock → k < W.heap.size → some k ≠ v'.ownBlock := by
  intro k h1 h2 h3
  rcases hat with e | ⟨b, e, hb⟩
  ·exact h1 (h3.trans e)
  ·rw [e] at h3; cases h3; omega
 refine ⟨hs, ?_, ?_, h.kp.then_ kp ?_, ?_, hb⟩
 ·exact Kd.F_mono (Kd.F_kept (Kd.F_bound h.hm) kp (fun k hk e => hk.1 e)) (fun k hk => hn k hk.1 hk.2)
 ·exact Kd.F_mono (Kd.F_kept (Kd.F_bound h.hh) kp (fun k hk e => hk.1 e)) (fun k hk => hn k hk.1 hk.2)
 ·intro k hk
  rcases h.hat with e | ⟨b, e, hb⟩
  ·exact .inl (hk.trans e)
  ·rw [e] at hk; cases hk; exact .inr hb
 ·rcases hat with e | ⟨b, e, hb⟩
  ·rw [e]; exact h.hat
  ·exact .inr ⟨b, e, Nat.le_trans h.kp.1 hb⟩
/-- A struct of three cells is written: all else stays. -/
theorem three_kept {gh : Nat} {a b c : Value} (hw : W2 = ((W.setCell ⟨gh, 0, none⟩ a).setCell ⟨gh, 1, none⟩ b).setCell ⟨gh, 2, none⟩ c) : Kept W W2 (fun k => k = gh) := by
 subst hw
 exact (((Kept.refl W (fun k => k = gh)).setCell (p := ⟨gh, 0, none⟩) (.inl rfl) a).setCell (p := ⟨gh, 1, none⟩) (.inl rfl) b).setCell (p := ⟨gh, 2, none⟩) (.inl rfl) c
end
mutual
def spec_l29Go.f : Nat → List (List Int) → List Int → List S29 → Int → Option (List (List Int))
 | 0, _, _, _, _ => none
 | k + 1, outs, l0, l1, n => if l0.length ≤ 1000 ∧ l1.length ≤ 1000 ∧ outs.length ≤ 1000 then spec_l29Go.l0 k outs l0 l1 n false 0 else none
def spec_l29Go.l0 : Nat → List (List Int) → List Int → List S29 → Int → Bool → Nat → Option (List (List Int))
 | 0, _, _, _, _, _, _ => none
 | k + 1, outs, l0, l1, n, mv, i => if outs.length ≤ 1000 then (if i < l1.length ∧ n > 0 then
   (if (rd_T29 l1 (i : Int)).f2 = 0 ∧ outs.length < 40 then
    (spec_FlatStep.f k l0 (rd_T29 l1 (i : Int)).f0 (rd_T29 l1 (i : Int)).f1 (rd_T29 l1 (i : Int)).f2).bind fun t => (spec_l29Go.f k outs t.1 (l1.set i ⟨t.2.1, t.2.2.1, t.2.2.2⟩) (wrap64 (n - 1))).bind fun q => spec_l29Go.l0 k q l0 l1 n true (i + 1)
   else spec_l29Go.l0 k outs l0 l1 n mv (i + 1))
  else if mv = true ∨ 40 ≤ outs.length then some outs else (findR (fun m => spec_l29Same.f k m l0) outs 0).bind fun j => if j ≥ 0 then some outs else some (outs ++ [l0])) else none
end
theorem spec_l29Go.mono_l : ∀ k, (∀ y0 y1 y2 y3, LeO (spec_l29Go.f k y0 y1 y2 y3) (spec_l29Go.f (k + 1) y0 y1 y2 y3)) ∧ (∀ y0 y1 y2 y3 y4 y5, LeO (spec_l29Go.l0 k y0 y1 y2 y3 y4 y5) (spec_l29Go.l0 (k + 1) y0 y1 y2 y3 y4 y5))
 | 0 => ⟨fun _ _ _ _ r h => by simp [spec_l29Go.f] at h, fun _ _ _ _ _ _ r h => by simp [spec_l29Go.l0] at h⟩
 | k + 1 => by
  obtain ⟨ih0, ih1⟩ := spec_l29Go.mono_l k
  refine ⟨?_, ?_⟩
  ·intros
   unfold spec_l29Go.f
   exact zL
  ·intros
   unfold spec_l29Go.l0
   repeat' first
    | (with_reducible exact ih0 _ _ _ _)
    | (with_reducible exact ih1 _ _ _ _ _ _)
    | (with_reducible exact spec_FlatStep.mono _ _ _ _ _)
    | (with_reducible exact findR_mono (fun _ => spec_l29Same.mono _ _ _) _ _)
    | (with_reducible exact LeO.refl _)
    | (with_reducible refine LeO.ite ?_ ?_)
    | (with_reducible refine LeO.bind ?_ (fun _ => ?_))
def spec_Ends2.l0 : Nat → List S29 → Nat → Option Bool
 | 0, _, _ => none
 | k + 1, l1, i => if i < l1.length then (spec_HartOk.f k (rd_T29 l1 (i : Int)).f0 (rd_T29 l1 (i : Int)).f1 (rd_T29 l1 (i : Int)).f2).bind fun b => if b = true then spec_Ends2.l0 k l1 (i + 1) else some false else some true
def spec_Ends2.f (k : Nat) (l0 : List Int) (l1 : List S29) (a2 : Int) : Option (List (List Int)) :=
 if l1.length ≤ 1152921504606846976 then (spec_Ends2.l0 k l1 0).bind fun b => if b = true then (spec_l1Words.f k l0 24).bind fun m => (if m = true then (if (l1.length : Int) > 3 then some [] else (spec_l1In.f a2 0 12).bind fun t => if t = true then spec_l29Go.f k [] l0 l1 a2 else some []) else some []) else some [] else none
theorem spec_Ends2.mono_l : ∀ k y0 y1, LeO (spec_Ends2.l0 k y0 y1) (spec_Ends2.l0 (k + 1) y0 y1)
 | 0 => fun _ _ r h => by simp [spec_Ends2.l0] at h
 | k + 1 => by
  have ih0 := spec_Ends2.mono_l k
  intro y0 y1
  unfold spec_Ends2.l0
  have mo0 := @spec_HartOk.mono
  exact zL
theorem spec_Ends2.mono : ∀ a0 a1 a2 k, LeO (spec_Ends2.f k a0 a1 a2) (spec_Ends2.f (k + 1) a0 a1 a2) := fun a0 a1 a2 k => by
 unfold spec_Ends2.f
 repeat' first
  | (with_reducible exact spec_Ends2.mono_l _ _ _)
  | (with_reducible exact spec_l1Words.mono _ _ _)
  | (with_reducible exact (spec_l29Go.mono_l _).1 _ _ _ _)
  | (with_reducible exact LeO.refl _)
  | (with_reducible refine LeO.ite ?_ ?_)
  | (with_reducible refine LeO.bind ?_ (fun _ => ?_))
theorem ghat {v v1 v8 : Value} {w W : World} (h : v.ownBlock = v1.ownBlock ∨ ∃ b, v.ownBlock = some b ∧ w.heap.size ≤ b) (hs : w.heap.size ≤ W.heap.size) (h2 : v8.ownBlock = v.ownBlock ∨ ∃ b, v8.ownBlock = some b ∧ W.heap.size ≤ b) : v8.ownBlock = v1.ownBlock ∨ ∃ b, v8.ownBlock = some b ∧ w.heap.size ≤ b := by
 rcases h2 with e | ⟨b, e, hb⟩
 ·rw [e]; exact h
 ·exact .inr ⟨b, e, Nat.le_trans hs hb⟩
theorem spec_l29Go.calls : ∀ (k : Nat) (u : Value) (outs0 : List (List Int)) (A0 : Option Addr) (c0 : Nat) (l0 : List Int) (A1 : Option Addr) (c1 : Nat) (l1 : List S29) (n : Int) (r : List (List Int)) (w0 w : World) (hB : Below w0.heap.size w0 w) (ho : Kd.S (Kd.slice 3 (Kd.int .i64)) 24 w w0.heap.size (fun _ => True) u outs0) (hm : Kd.F (Kd.int .i64) w (fun k => some k ≠ u.ownBlock) A0 l0.length l0) (hc0 : l0.length ≤ c0) (hh : Kd.F k29 w (fun k => some k ≠ u.ownBlock) A1 l1.length l1) (hc1 : l1.length ≤ c1) (h : spec_l29Go.f k outs0 l0 l1 n = some r),
  Calls Try.prog 54 #[u, .slice A0 l0.length c0, .slice A1 l1.length c1, .int .i64 n] w fun e w' => ∃ v', e = .returned v' ∧ Kd.S (Kd.slice 3 (Kd.int .i64)) 24 w' w0.heap.size (fun _ => True) v' r ∧ (v'.ownBlock = u.ownBlock ∨ ∃ b, v'.ownBlock = some b ∧ w.heap.size ≤ b) ∧ Kept w w' (fun k => some k = u.ownBlock) ∧ Below w0.heap.size w0 w' := by
 intro k
 induction k using Nat.strongRecOn with
 | _ k ih =>
 intro u outs0 A0 c0 l0 A1 c1 l1 n r w0 w hB ho hm hc0 hh hc1 h
 cases k with
 | zero => exact absurd h (by simp [spec_l29Go.f])
 | succ k =>
 have IH := zM ih
 clear ih
 have hu29 := Try.underlying29
 rw [spec_l29Go.f] at h
 by_cases gd : l0.length ≤ 1000 ∧ l1.length ≤ 1000 ∧ outs0.length ≤ 1000
 rotate_left
 ·rw [if_neg gd] at h; cases h
 rw [if_pos gd] at h
 have HG := zM gd
 have HH := zM h
 have HC0 := zM hc0
 have HC1 := zM hc1
 have HF := zM (⟨ho, hm, hh, Kept.refl _ _, .inl rfl, hB⟩ : GL w0 w w u u outs0 A0 l0 A1 l1)
 clear gd h hB ho hm hc0 hh hc1
 go_enter Try.func54, Try.ntmps54
 go_wp2
 go_loopg [0, 9, 10] k (fun kq v0 v9 v10 w' => ∃ (outs : List (List Int)) (mv : Bool) (i : Nat), v9 = .bool mv ∧ v10 = .int .i64 i ∧ Aside0 (spec_l29Go.l0 kq outs l0 l1 n mv i = some r) ∧ Aside0 (kq ≤ k) ∧ Aside0 (GL w0 w w' u v0 outs A0 l0 A1 l1))
 case atStart => exact ⟨outs0, false, 0, rfl, rfl, ⟨HH.out⟩, ⟨Nat.le_refl _⟩, ⟨HF.out⟩⟩
 case round =>
  clear HF HH
  obtain ⟨outs, mv, i, rfl, rfl, H0, HK2, HF⟩ := hrel
  obtain ⟨Av, cv, rfl⟩ := Kd.S_slice HF.out.so
  cases gk with
  | zero => exact absurd H0.out (by simp [spec_l29Go.l0])
  | succ kg =>
  have H := H0.out
  rw [spec_l29Go.l0] at H
  clear H0
  by_cases go_ : outs.length ≤ 1000
  rotate_left
  ·rw [if_neg go_] at H; cases H
  rw [if_pos go_] at H
  have HGO1 := zM go_
  clear go_
  by_cases ci : i < l1.length ∧ n > 0
  rotate_left
  ·rw [if_neg ci] at H
   have ex : (i < l1.length ∧ decide ((i : Int) < (l1.length : Int)) = true ∧ decide (n > 0) = false ∧ ¬ n > 0) ∨ ¬ i < l1.length := by
    by_cases c1 : i < l1.length
    rotate_left
    ·exact .inr c1
    exact .inl ⟨c1, decide_eq_true (by omega), decide_eq_false (fun c2 => ci ⟨c1, c2⟩), fun c2 => ci ⟨c1, c2⟩⟩
   clear ci
   by_cases cm : mv = true ∨ 40 ≤ outs.length
   ·rw [if_pos cm] at H
    obtain rfl := Option.some.inj H
    clear H
    cases mv with
    | true =>
     clear cm
     rcases ex with ⟨e1_, e2_, e3_, e4_⟩ | e1_
     all_goals
      go_wp2
      go_ret
      first | exact ⟨_, rfl, HF.out.so, HF.out.hat, HF.out.kp, HF.out.bl⟩ | exact ⟨rfl, HF.out.so, HF.out.hat, HF.out.kp, HF.out.bl⟩
    | false =>
     have d8 : 40 ≤ outs.length := by simpa using cm
     have d9 : decide ((outs.length : Int) ≥ 40) = true := decide_eq_true (by omega)
     clear cm
     rcases ex with ⟨e1_, e2_, e3_, e4_⟩ | e1_
     all_goals
      go_wp2
      go_ret
      first | exact ⟨_, rfl, HF.out.so, HF.out.hat, HF.out.kp, HF.out.bl⟩ | exact ⟨rfl, HF.out.so, HF.out.hat, HF.out.kp, HF.out.bl⟩
   rw [if_neg cm] at H
   obtain ⟨cm1, cm2⟩ := not_or.1 cm
   replace cm1 := Bool.eq_false_iff.mpr cm1
   subst cm1
   obtain ⟨j, hj, H⟩ := Option.bind_eq_some_iff.mp H
   have AJ := zM hj
   have HJ := zM H
   have d8 : ¬ 40 ≤ outs.length := by omega
   have d9 : decide ((outs.length : Int) ≥ 40) = false := decide_eq_false (by omega)
   clear H hj cm
   rcases ex with ⟨e1_, e2_, e3_, e4_⟩ | e1_
   all_goals
    go_wp2
    go_loopg [14] outs.length (fun kq v14 w' => ∃ i2 : Nat, v14 = .int .i64 i2 ∧ Aside0 (i2 + kq = outs.length) ∧ Aside0 (findR (fun m => spec_l29Same.f kg m l0) (outs.drop i2) i2 = some j) ∧ Aside0 (GL w0 w w' u (.slice Av outs.length cv) outs A0 l0 A1 l1))
    case atStart => exact ⟨0, rfl, ⟨by omega⟩, ⟨AJ.out⟩, ⟨HF.out⟩⟩
    case round =>
     clear HF AJ
     obtain ⟨i2, rfl, HI2, HP, HF⟩ := hrel
     by_cases hi : i2 < outs.length
     ·have HI3 := zM hi
      have d0 : decide ((i2 : Int) < (outs.length : Int)) = true := decide_eq_true (by omega)
      have hp := HP.1
      rw [findR_drop _ outs i2 hi] at hp
      obtain ⟨b, hpb, hp⟩ := Option.bind_eq_some_iff.mp hp
      obtain ⟨ad, B0, d0_, e0, hx0, hl0, hi0⟩ := row_at (Kd.S_reads' HF.out.so).2.2 i2 hi
      generalize outs.getD i2 ([] : List Int) = q at hpb hx0 hl0 hi0
      have AP := zM hpb
      have HL0 := zM hl0
      have HI0 := zM hi0
      clear hl0 hi0 hpb
      cases e0
      have p1 : (0 ≤ (i2 : Int)) = True := eq_true (by omega)
      have p2' : ((i2 : Int) < (outs.length : Int)) = True := eq_true (by omega)
      cases b with
      | true =>
       have HP' := zM (Option.some.inj hp)
       have hr : outs = r := by
        have h1 := HJ.1
        rw [if_pos (show j ≥ 0 by rw [← HP'.out]; omega)] at h1
        exact Option.some.inj h1
       subst hr
       clear hp HP
       go_wp2_with (first | (go_at_call 78; (refine (spec_l29Same.calls kg B0 d0_ q A0 c0 l0 true _ HI0.1 HL0.1 (Kd.F_now HF.out.hm) HC0.1 AP.out).mono ?_); rintro e w8 ⟨rfl, hd⟩; have n0_ := zM (HF.out.below hd.below); clear HF hd; have HF := n0_; clear n0_))
       go_ret
       first | exact ⟨_, rfl, HF.out.so, HF.out.hat, HF.out.kp, HF.out.bl⟩ | exact ⟨rfl, HF.out.so, HF.out.hat, HF.out.kp, HF.out.bl⟩
      | false =>
       have HP' := zM (show findR (fun m => spec_l29Same.f kg m l0) (outs.drop (i2 + 1)) (i2 + 1) = some j from hp)
       clear hp HP
       go_wp2_with (first | (go_at_call 78; (refine (spec_l29Same.calls kg B0 d0_ q A0 c0 l0 false _ HI0.1 HL0.1 (Kd.F_now HF.out.hm) HC0.1 AP.out).mono ?_); rintro e w8 ⟨rfl, hd⟩; have n0_ := zM (HF.out.below hd.below); clear HF hd; have HF := n0_; clear n0_))
       go_roundg (gk - 1)
       case rel => exact ⟨i2 + 1, congrArg (Value.int .i64) (by have h1_ := HI3.1; have h2_ := HGO1.out; first | (show wrap64 ((i2 : Int) + 1) = ((i2 + 1 : Nat) : Int); unfold wrap64; omega) | omega), ⟨by have := HI2.1; have := HI3.1; omega⟩, ⟨HP'.out⟩, ⟨HF.out⟩⟩
       all_goals (have := HI2.1; have := HI3.1; omega)
     have d0 : decide ((i2 : Int) < (outs.length : Int)) = false := decide_eq_false (by omega)
     have hp := HP.1
     rw [List.drop_of_length_le (by omega)] at hp
     have hp2 : (-1 : Int) = j := Option.some.inj hp
     have h1 := HJ.1
     rw [if_neg (by omega)] at h1
     obtain rfl := Option.some.inj h1
     clear hp HP h1 HJ hp2
     go_wp2_with (first
      | ((with_reducible refine gate_dst (N := 79) rfl ?_); refine Kd.R_lit (Kd.int .i64) _ 3 ?hg (N := 79) ?hd (xs := ([] : List Int)) (inner := []) (ok := fun _ => True) (okp := fun _ => True) ?hr ?hp (fun _ hk => hk) trivial (Below.refl _ _) (Nat.le_refl _) (by simp) ?_; (case hd => rfl); (case hg => rfl); (case hr => exact zHH); (case hp => exact (Reps.none _ _)); intro v6 w6 ho hb hg_ hnew_; clear hg_ hnew_; obtain ⟨y6, hy6⟩ : ∃ y_ : List Int, y_ = ([] : List Int) := ⟨_, rfl⟩; rw [← hy6] at ho; have Ny6 := zM hy6; have HSO := zM (Kd.S_elder' HF.out.so (Kd.R_base ho) hb); have HOL := zM (Kd.R_lower ho HF.out.bl.size); have HLB := zM (show ∀ k, v6.ownBlock = some k → w.heap.size ≤ k from fun k e_ => Nat.le_trans HF.out.kp.1 (Kd.R_base ho k e_)); have n0_ := zM (HF.out.below hb); clear HF ho hb hy6; have HF := n0_; clear n0_)
      | ((with_reducible refine gate_builtin (b := .append) (xs := #[.tmp 79, .tmp 80]) rfl ?_); at_builtin; refine Kd.R_append_rows (Kd.int .i64) (w0 := w0) w0.heap.size rfl (.tmp 79) (.tmp 80) 24 3 (.int .i64 0) 8 rfl Try.underlying24 info3 rfl (by decide) (by omega) v6 y6 l0 _ _ _ (fun _ => True) (fun _ => False) rfl rfl ?aO ?aR (fun _ _ h => h) (fun _ h => h.elim) ?aF ?aB ?aS ?aL ?_; (case aR => exact Kd.F_now HF.out.hm); (case aB => exact HF.out.bl); (case aF => exact fun _ _ => trivial); (case aO => exact HOL.out); (case aS => exact HF.out.bl.size); (case aL => have h1_ := HG.1.1; have h2_ : y6.length = 0 := (by rw [Ny6.1]; rfl); rw [h2_]; omega); intro v7 w7 ho hb hg hat; rw [Ny6.1, List.nil_append] at ho; obtain ⟨A7, c7, e7⟩ := Kd.R_slice ho; subst e7; have n0_ := zM (Kd.S_after HSO.out hg hat); have HO7 := zM (Kd.R_tight rfl ho); have HKP := zM (Kept.of_grown hg HF.out.kp (fun k e_ => .inr (HLB.out k e_))); have HAT := zM HF.out.hat; have HB7 := zM hb; clear HSO HF ho hb hg hat; have HSO := n0_; clear n0_)
      | ((with_reducible refine gate_builtin (b := .append) (xs := #[.tmp 78, .tmp 82]) rfl ?_); at_builtin; refine Kd.S_append (Kd.slice 3 (Kd.int .i64)) (w0 := w0) w0.heap.size rfl (.tmp 78) (.tmp 82) 37 24 (.slice none 0 0) 24 rfl Try.underlying37 info24 rfl (by decide) (by omega) (.slice Av outs.length cv) outs l0 [.slice A7 l0.length c7] (fun _ => True) (fun k => some k = (Value.slice A7 l0.length c7).ownBlock) rfl rfl ?aP (fun k hk => ⟨trivial, fun e_ => ((Kd.S_R HSO.out).1 k e_.symm).2 hk⟩) (fun _ _ => trivial) ?aO ?aB ?aS ?aL ?_; (case aP => exact Kd.M_row (Kd.R_mono HO7.1 (fun _ h_ => h_))); (case aB => exact HB7.1); (case aO => exact HSO.out); (case aS => exact HB7.1.size); (case aL => have h_ := HGO1.out; omega); intro v8 w8 ho hb hg hat; have HS8 := zM ho; have HB8 := zM hb; have HAT8 := zM (ghat HAT.out HKP.out.1 hat); have HKP8 := zM (Kept.of_grown hg HKP.out (fun k e_ => by rcases HAT.out with q_ | ⟨b_, q_, hb_⟩; exact .inl (e_.symm.trans q_); rw [q_] at e_; cases e_; exact .inr hb_)); clear ho hb hg hat))
     go_ret
     first | exact ⟨_, rfl, HS8.out, HAT8.out, HKP8.out, HB8.1⟩ | exact ⟨rfl, HS8.out, HAT8.out, HKP8.out, HB8.1⟩
  rw [if_pos ci] at H
  obtain ⟨ci, cn⟩ := ci
  have HI := zM ci
  obtain ⟨ad, ua, uc, eA, hx0, hx1, hx2, hul, huF⟩ := at_FH HF.out.hh i ci
  have HUL := zM hul
  have HUF := zM huF
  clear hul huF
  cases eA
  have d3 : decide ((i : Int) < (l1.length : Int)) = true := decide_eq_true (by omega)
  have d4 : decide (n > 0) = true := decide_eq_true cn
  have p1 : (0 ≤ (i : Int)) = True := eq_true (by omega)
  have p2 : ((i : Int) < (l1.length : Int)) = True := eq_true (by omega)
  by_cases cs : (rd_T29 l1 (i : Int)).f2 = 0 ∧ outs.length < 40
  rotate_left
  ·rw [if_neg cs] at H
   have HN := zM H
   by_cases cr : (rd_T29 l1 (i : Int)).f2 = 0
   rotate_left
   ·have d5 : ((rd_T29 l1 (i : Int)).f2 == 0) = false := beq_eq_false_iff_ne.mpr cr
    clear H cn ci cs
    go_wp2
    go_roundg kg
    case measure => have := HK2.1; omega
    case rel => exact ⟨outs, mv, i + 1, rfl, congrArg (Value.int .i64) (by have h1_ := HI.1; have h2_ := HG.1.2.1; show wrap64 ((i : Int) + 1) = ((i + 1 : Nat) : Int); unfold wrap64; omega), ⟨HN.out⟩, ⟨by have := HK2.1; omega⟩, ⟨HF.out⟩⟩
   have d5 : ((rd_T29 l1 (i : Int)).f2 == 0) = true := beq_iff_eq.mpr cr
   have d7 : 40 ≤ outs.length := by omega
   have d6 : decide ((outs.length : Int) ≥ 40) = true := decide_eq_true (by omega)
   clear H cn ci cs
   go_wp2
   go_roundg kg
   case measure => have := HK2.1; omega
   case rel => exact ⟨outs, mv, i + 1, rfl, congrArg (Value.int .i64) (by have h1_ := HI.1; have h2_ := HG.1.2.1; show wrap64 ((i : Int) + 1) = ((i + 1 : Nat) : Int); unfold wrap64; omega), ⟨HN.out⟩, ⟨by have := HK2.1; omega⟩, ⟨HF.out⟩⟩
  rw [if_pos cs] at H
  obtain ⟨⟨t1, t2, t3, t4⟩, hst, H⟩ := Option.bind_eq_some_iff.mp H
  obtain ⟨q, hfi, H⟩ := Option.bind_eq_some_iff.mp H
  have AS := zM hst
  have AF := zM hfi
  have HN := zM H
  have d5 : ((rd_T29 l1 (i : Int)).f2 == 0) = true := beq_iff_eq.mpr cs.1
  have d5b : ((rd_T29 l1 (i : Int)).f2 != 0) = false := by rw [bne, d5]; rfl
  have d6 : decide ((outs.length : Int) ≥ 40) = false := decide_eq_false (by omega)
  have d7 : ¬ 40 ≤ outs.length := by omega
  clear H cn ci cs hst hfi
  go_wp2_with (first
   | (go_at_call 77; (refine (spec_FlatStep.calls kg A0 c0 l0 ua uc (rd_T29 l1 (i : Int)).f0 (rd_T29 l1 (i : Int)).f1 (rd_T29 l1 (i : Int)).f2 t1 t2 t3 t4 _ (Kd.F_now HF.out.hm) HC0.1 (Kd.F_now HUF.out) HUL.out AS.out).mono ?_); rintro e w1 ⟨vm, vr, rfl, hom, hor, hb⟩; obtain ⟨Am, cm, eo⟩ := Kd.R_slice hom; subst eo; obtain ⟨Ar, cr, er⟩ := Kd.R_slice hor; subst er; have HM2 := zM (show Kd.R (Kd.int .i64) 3 w1 wr.heap.size (fun k => k < w1.heap.size) (.slice Am t1.length cm) t1 from Kd.R_mono (Kd.R_bound hom) (fun k hk => hk.2.2.1)); have HR2 := zM (show Kd.R (Kd.int .i64) 3 w1 wr.heap.size (fun k => k < w1.heap.size) (.slice Ar t2.length cr) t2 from Kd.R_mono (Kd.R_bound hor) (fun k hk => hk.2.2.1)); have HBR := zM hb; have HW1 := zM (show wr.heap.size ≤ w1.heap.size from hb.size); clear hom hor hb hx0 hx1 hx2)
   | ((with_reducible refine zBx 12 29 #[.slice none 0 0, .int .i64 0, .int .i64 0] ?_); intro gh hg w2 hbox hb; have HGH := zM (show w1.heap.size ≤ gh from Nat.le_of_eq hg.symm); have BKH := zM hbox; have n0_ := zM (below_step HBR.out hb); have n1_ := zM (Kd.R_below HM2.out hb); have n2_ := zM (Kd.R_below HR2.1 hb); clear HBR HM2 HR2 hg hbox hb; have HBR := n0_; have HM2 := n1_; have HR2 := n2_; clear n0_ n1_ n2_)
   | ((with_reducible refine gate_store (t := 29) (p := 12) rfl ?_); refine store_event (t := 29) (p := 12) (v := ?vo_) (w1 := (((w2.setCell ⟨gh, 0, none⟩ (.slice Ar t2.length cr)).setCell ⟨gh, 1, none⟩ (.int .i64 t3)).setCell ⟨gh, 2, none⟩ (.int .i64 t4))) ?hg ?ho ?hn ?hr ?_; (case ho => rfl); (case hg => rfl); (case hn => rfl); (case hr => have hz0 := (blk_cell BKH.out 0).trans rfl; have hz1 := (blk_cell BKH.out 1).trans rfl; have hz2 := (blk_cell BKH.out 2).trans rfl; have hf0 := blk_frozen BKH.out 0; have hf1 := blk_frozen BKH.out 1; have hf2 := blk_frozen BKH.out 2; first | (go_simp; done) | (go_simp; rfl)); intro w3 hw; obtain ⟨n0_, n1_⟩ := three_set hw BKH.out HBR.out (Nat.le_trans HW1.1 HGH.out); have hk3 := three_kept hw; have n2_ := zM n0_; have n3_ := zM n1_; have n4_ := zM (Kd.R_kept HM2.out hk3 (fun k hk e_ => Nat.lt_irrefl _ (Nat.lt_of_lt_of_le (e_ ▸ hk) HGH.out))); have n5_ := zM (Kd.R_kept HR2.1 hk3 (fun k hk e_ => Nat.lt_irrefl _ (Nat.lt_of_lt_of_le (e_ ▸ hk) HGH.out))); have HW3 := zM (show w1.heap.size ≤ w3.heap.size ∧ gh < w3.heap.size from ⟨Nat.le_of_lt (Nat.lt_of_le_of_lt HGH.out (blk_lt n0_)), blk_lt n0_⟩); clear BKH HBR HM2 HR2 hw hk3 n0_ n1_; have BKH := n2_; have HBR := n3_; have HM2 := n4_; have HR2 := n5_; clear n2_ n3_ n4_ n5_)
   | ((with_reducible refine gate_dst (N := 45) rfl ?_); refine Kd.N_lit k29 _ 29 ?hg (N' := 45) ?hd (xs := ([] : List (S29))) (inner := []) (ok := (fun k => some k ≠ (Value.slice Av outs.length cv).ownBlock)) (okp := (fun k => some k ≠ (Value.slice Av outs.length cv).ownBlock)) ?hr ?hp (fun _ hk => hk) (fun e_ => Nat.lt_irrefl _ (Nat.lt_of_lt_of_le (Kd.S_lt HF.out.so _ e_.symm) HBR.out.size)) (Below.refl _ _) (Nat.le_refl _) (by simp) ?_; (case hd => rfl); (case hg => rfl); (case hr => exact zHH); (case hp => exact (Reps.none _ _)); intro v4 w4 ho hb hg_ hnew_; clear hg_ hnew_; obtain ⟨y1, hy1⟩ : ∃ y_ : List (S29), y_ = ([] : List (S29)) := ⟨_, rfl⟩; rw [← hy1] at ho; have Ny1 := zM hy1; have HOL := zM ho; have HGL := zM (show w3.heap.size ≤ w4.heap.size from hb.size); have HLB := zM (show ∀ k, v4.ownBlock = some k → w3.heap.size ≤ k from Kd.N_base ho); have n0_ := zM (below_step HBR.out hb); have n1_ := zM (Kd.R_below HM2.out hb); have n2_ := zM (Kd.R_below HR2.1 hb); have n3_ := zM (blk_below BKH.out hb); clear HBR HM2 HR2 BKH hb ho hy1; have HBR := n0_; have HM2 := n1_; have HR2 := n2_; have BKH := n3_; clear n0_ n1_ n2_ n3_)
   | ((with_reducible refine gate_builtin (b := .append) (xs := #[.tmp 45, .tmp 46]) rfl ?_); at_builtin; refine Kd.N_append_rows k29 (w0 := wr) wr.heap.size rfl (.tmp 45) (.tmp 46) 30 29 (.agg #[(.slice none 0 0), (.int .i64 0), (.int .i64 0)]) 40 rfl Try.underlying30 info29 rfl (by decide) (by omega) v4 y1 l1 _ _ _ (fun k => some k ≠ (Value.slice Av outs.length cv).ownBlock) (fun k => (fun k => some k ≠ (Value.slice Av outs.length cv).ownBlock) k ∧ some k ≠ v4.ownBlock) rfl rfl ?aO ?aR (fun _ h => h) ?aF ?aB ?aS ?aL ?_; (case aO => exact Kd.N_lower HOL.out (Nat.le_trans HW1.1 HW3.1.1)); (case aR => exact Kd.F_mono (Kd.F_below (Kd.F_bound HF.out.hh) HBR.out) (fun k hk => ⟨hk.1, fun e_ => Nat.lt_irrefl _ (Nat.lt_of_lt_of_le hk.2 (Nat.le_trans (Nat.le_trans HW1.1 HW3.1.1) (HLB.out k e_.symm)))⟩)); (case aB => exact HBR.out); (case aF => exact (fun k hk e_ => Nat.lt_irrefl _ (Nat.lt_of_lt_of_le (Kd.S_lt HF.out.so _ e_.symm) (Nat.le_trans HBR.out.size hk)))); (case aS => exact HBR.out.size); (case aL => have h1_ := HG.1.2.1; have h2_ : y1.length = 0 := (by rw [Ny1.1]; rfl); rw [h2_]; omega); intro v5 w5 ho hb hg hat; rw [Ny1.1, List.nil_append] at ho; obtain ⟨go, co, rfl, hgo, hgl, _⟩ := Kd.N_form ho (Nat.lt_of_le_of_lt (Nat.zero_le _) HI.1); have HGO := zM (show w3.heap.size ≤ go ∧ go < w5.heap.size ∧ w1.heap.size ≤ w5.heap.size from ⟨by rcases hat with e_ | ⟨b_, e_, hb_⟩; exact HLB.out go (e_.symm.trans rfl); cases e_; exact Nat.le_trans HGL.out hb_, hgl, Nat.le_trans (Nat.le_trans HW3.1.1 HGL.out) hg.size⟩); have n0_ := zM hb; have n1_ := zM (Kd.R_grown HM2.out hg (fun k hk e_ => Nat.lt_irrefl _ (Nat.lt_of_lt_of_le hk (Nat.le_trans HW3.1.1 (HLB.out k e_.symm))))); have n2_ := zM (Kd.R_grown HR2.1 hg (fun k hk e_ => Nat.lt_irrefl _ (Nat.lt_of_lt_of_le hk (Nat.le_trans HW3.1.1 (HLB.out k e_.symm))))); have n3_ := zM (blk_grown BKH.out hg (fun e_ => Nat.lt_irrefl _ (Nat.lt_of_lt_of_le HW3.1.2 (HLB.out gh e_.symm)))); have HOT := zM ho; clear HBR HM2 HR2 BKH HOL ho hb hg hat hgo hgl; have HBR := n0_; have HM2 := n1_; have HR2 := n2_; have BKH := n3_; clear n0_ n1_ n2_ n3_; have hch0 : w5.cell? ⟨gh, 0, none⟩ = some (.slice Ar t2.length cr) := (blk_cell BKH.out 0).trans rfl; have hch1 : w5.cell? ⟨gh, 1, none⟩ = some (.int .i64 t3) := (blk_cell BKH.out 1).trans rfl; have hch2 : w5.cell? ⟨gh, 2, none⟩ = some (.int .i64 t4) := (blk_cell BKH.out 2).trans rfl; obtain ⟨ce, hcl, hM, hcc, hfr⟩ := Kd.N_elem HOT.out z29 (i : Int) (Int.natCast_nonneg _) (Int.ofNat_lt.2 HI.1); obtain ⟨ua9, uc9, rfl, _, _⟩ := k29_openF hM; clear hM; have HCC := zM hcc; have HCL := zM hcl; have hy0 : w5.cell? ⟨go, i * 3, none⟩ = some (.slice ua9 _ uc9) := hcc 0 _ rfl; have hy1 : w5.cell? ⟨go, i * 3 + 1, none⟩ = some (.int .i64 _) := hcc 1 _ rfl; have hy2 : w5.cell? ⟨go, i * 3 + 2, none⟩ = some (.int .i64 _) := hcc 2 _ rfl; have hg0 : w5.frozen? ⟨go, i * 3, none⟩ = false := hfr 0; have hg1 : w5.frozen? ⟨go, i * 3 + 1, none⟩ = false := hfr 1; have hg2 : w5.frozen? ⟨go, i * 3 + 2, none⟩ = false := hfr 2; clear hcc hfr hcl)
   | ((with_reducible refine gate_store (t := 29) (p := 51) rfl ?_); refine store_event (t := 29) (p := 51) (v := ?vp_) (w1 := (((w5.setCell ⟨go, i * 3, none⟩ (.slice Ar t2.length cr)).setCell ⟨go, i * 3 + 1, none⟩ (.int .i64 t3)).setCell ⟨go, i * 3 + 2, none⟩ (.int .i64 t4))) ?hg ?ho ?hn ?hr ?_; (case ho => rfl); (case hg => rfl); (case hn => rfl); (case hr => exact zHH); intro w7 hw; have HP := Kd.N_seg HOT.out (i : Int) (Int.natCast_nonneg _) (Int.ofNat_lt.2 HI.1) (seg := [.slice Ar t2.length cr, .int .i64 t3, .int .i64 t4]) (j := 0) HCL.out HCC.out (show 3 ≤ 3 from by decide) (x' := (⟨t2, t3, t4⟩ : S29)) (okp := fun k => some k = (Value.slice Ar t2.length cr).ownBlock) (k29_mkF w5 _ (⟨t2, t3, t4⟩ : S29) (Kd.R_reads' HR2.1).2.1 (Kd.R_F (Kd.R_tight rfl HR2.1))) (fun k hk => ⟨fun e_ => Nat.lt_irrefl _ (Nat.lt_of_lt_of_le (Kd.S_lt HF.out.so k e_.symm) (Kd.R_base HR2.1 k hk.symm)), fun e_ => Nat.lt_irrefl _ (Nat.lt_of_lt_of_le (HR2.1.1 k hk.symm) (Nat.le_trans HW3.1.1 (e_ ▸ HGO.out.1)))⟩); have hg : w5.grownBy w7 (some go) := (by rw [hw]; exact HP.2); have n0_ := zM (show Kd.N k29 29 w7 wr.heap.size (fun k => some k ≠ (Value.slice Av outs.length cv).ownBlock) (.slice (some ⟨go, 0, none⟩) l1.length co) (l1.set i (⟨t2, t3, t4⟩ : S29)) from (by rw [hw]; exact HP.1)); have n1_ := zM (Kd.R_tight rfl (Kd.R_grown HM2.out hg (fun k hk e_ => by cases e_; exact Nat.lt_irrefl _ (Nat.lt_of_lt_of_le hk (Nat.le_trans HW3.1.1 HGO.out.1))))); have n2_ := zM (HBR.out.grown hg HBR.out.size (fun k e_ => by cases e_; exact Nat.le_trans (Nat.le_trans HW1.1 HW3.1.1) HGO.out.1)); clear HP hw hg HOT HM2 HR2 HBR BKH HCC HCL hch0 hch1 hch2 hy0 hy1 hy2 hg0 hg1 hg2; have HOT := n0_; have HM2 := n1_; have HBR := n2_; clear n0_ n1_ n2_)
   | (go_at_call 54; (refine calls_of_args (args' := #[.slice Av outs.length cv, .slice Am t1.length cm, .slice (some ⟨go, 0, none⟩) (l1.set i (⟨t2, t3, t4⟩ : S29)).length co, .int .i64 (wrap64 (n - 1))]) (by rw [List.length_set]) ((IH.out kg (by have := HK2.1; omega) (.slice Av outs.length cv) outs Am cm t1 (some ⟨go, 0, none⟩) co (l1.set i (⟨t2, t3, t4⟩ : S29)) (wrap64 (n - 1)) q w0 _ (HF.out.below HBR.out).bl (HF.out.below HBR.out).so (Kd.F_mono (Kd.R_F HM2.out) (fun k hk e_ => Nat.lt_irrefl _ (Nat.lt_of_lt_of_le (Kd.S_lt HF.out.so k e_.symm) (Kd.R_base HM2.out k hk.symm)))) (Kd.R_reads' HM2.out).2.1 (by rw [List.length_set]; exact Kd.N_F HOT.out) (by rw [List.length_set]; exact (Kd.N_reads' HOT.out).2.1) AF.out).mono ?_)); rintro e w8 ⟨v2, rfl, hs, hat, hkp, hb⟩; have n0_ := zM ((HF.out.below HBR.out).after hs hat hkp hb); clear HF HBR HOT HM2 hs hat hkp hb; have HF := n0_; clear n0_))
  go_roundg kg
  case measure => have := HK2.1; omega
  case rel => exact ⟨q, true, i + 1, rfl, congrArg (Value.int .i64) (by have h1_ := HI.1; have h2_ := HG.1.2.1; show wrap64 ((i : Int) + 1) = ((i + 1 : Nat) : Int); unfold wrap64; omega), ⟨HN.out⟩, ⟨by have := HK2.1; omega⟩, ⟨HF.out⟩⟩
theorem spec_Ends2.calls (k : Nat) (A0 : Option Addr) (c0 : Nat) (l0 : List Int) (A1 : Option Addr) (c1 : Nat) (l1 : List (S29)) (a2 : Int) (r : List (List Int)) (w : World) (hr0 : Kd.C (Kd.int .i64) w A0 l0.length l0) (hc0 : l0.length ≤ c0) (hr1 : Kd.C k29 w A1 l1.length l1) (hc1 : l1.length ≤ c1) (h : spec_Ends2.f k l0 l1 a2 = some r) :
  Calls Try.prog 21 #[.slice A0 l0.length c0, .slice A1 l1.length c1, .int .i64 a2] w fun e w' => ∃ v0_ : Value, e = .returned (v0_) ∧ Kd.S (Kd.slice 3 (Kd.int .i64)) 24 w' w.heap.size (fun _ => True) v0_ r ∧ Below w.heap.size w w' := by
 have HR0 := zM hr0
 have HR1 := zM hr1
 have HC0 := zM hc0
 have HC1 := zM hc1
 have HB := zM (Below.refl w.heap.size w)
 unfold spec_Ends2.f at h
 by_cases gd : l1.length ≤ 1152921504606846976
 rotate_left
 ·rw [if_neg gd] at h; cases h
 rw [if_pos gd] at h
 have HG := zM gd
 obtain ⟨b, hb, h⟩ := Option.bind_eq_some_iff.mp h
 have AB := zM hb
 have HH := zM h
 clear hr0 hr1 hc0 hc1 hb h gd
 go_enter Try.func21, Try.ntmps21
 go_wp2
 go_loopg [7] k (fun kq v7 w' => ∃ (i : Nat), v7 = .int .i64 i ∧ Aside0 (spec_Ends2.l0 kq l1 i = some b) ∧ Aside0 (Below w.heap.size w w'))
 case atStart => exact ⟨0, rfl, ⟨AB.out⟩, ⟨HB.1⟩⟩
 case round =>
  clear HB AB
  obtain ⟨i, rfl, H0, HB⟩ := hrel
  cases gk with
  | zero => exact absurd H0.out (by simp [spec_Ends2.l0])
  | succ kg =>
  have H := H0.out
  rw [spec_Ends2.l0] at H
  clear H0
  by_cases ci : i < l1.length
  ·rw [if_pos ci] at H
   have HI := zM ci
   obtain ⟨ad, ua, uc, eA, hx0, hx1, hx2, hul, huF⟩ := at_FH (Kd.F_below (Kd.C_F heap_kH HR1.1) HB.1) i ci
   have HUL := zM hul
   have HUF := zM huF
   clear hul huF
   cases eA
   have d3 : decide ((i : Int) < (l1.length : Int)) = true := decide_eq_true (by omega)
   have p1 : (0 ≤ (i : Int)) = True := eq_true (by omega)
   have p2 : ((i : Int) < (l1.length : Int)) = True := eq_true (by omega)
   obtain ⟨b1, hb1, H⟩ := Option.bind_eq_some_iff.mp H
   have AS := zM hb1
   clear hb1
   cases b1 with
   | true =>
    rw [if_pos rfl] at H
    have HN := zM H
    clear H
    go_wp2_with (first
     | (go_at_call 52; (refine (spec_HartOk.calls kg ua uc (rd_T29 l1 (i : Int)).f0 (rd_T29 l1 (i : Int)).f1 (rd_T29 l1 (i : Int)).f2 true _ (Kd.F_now HUF.out) HUL.out AS.out).mono ?_); rintro e w1 ⟨rfl, hb⟩; have n0_ := zM (below_step HB.1 hb); clear HB hb hx0 hx1 hx2; have HB := n0_; clear n0_))
    go_roundg kg
    case rel => exact ⟨i + 1, congrArg (Value.int .i64) (by have h1_ := HI.1; have h2_ := HG.1; first | (show wrap64 ((i : Int) + 1) = ((i + 1 : Nat) : Int); unfold wrap64; omega) | omega), ⟨HN.out⟩, ⟨HB.1⟩⟩
    all_goals omega
   | false =>
    rw [if_neg (by decide)] at H
    obtain rfl := Option.some.inj H
    have hr : [] = r := by
     have h1 := HH.out
     rw [if_neg (by decide)] at h1
     exact Option.some.inj h1
    subst hr
    clear H HH
    go_wp2_with (first
     | (go_at_call 52; (refine (spec_HartOk.calls kg ua uc (rd_T29 l1 (i : Int)).f0 (rd_T29 l1 (i : Int)).f1 (rd_T29 l1 (i : Int)).f2 false _ (Kd.F_now HUF.out) HUL.out AS.out).mono ?_); rintro e w1 ⟨rfl, hb⟩; have n0_ := zM (below_step HB.1 hb); clear HB hb hx0 hx1 hx2; have HB := n0_; clear n0_)
     | ((with_reducible refine gate_dst (N := 20) rfl ?_); refine Kd.S_lit (Kd.slice 3 (Kd.int .i64)) (w0 := w) w.heap.size 24 ?hg (N := 20) ?hd (xs := ([] : List (List Int))) (inner := []) (ok := fun _ => True) (okp := fun _ => True) ?hr ?hp (fun _ hk => hk) trivial HB.1 HB.1.size (by simp) ?_; (case hd => rfl); (case hg => rfl); (case hr => exact zHH); (case hp => exact (Reps.none _ _)); intro v4 w4 ho hb hg_ hnew_; have HOL := zM ho; have HNW := zM hnew_; have n0_ := zM hb; clear HB hg_ hnew_ ho hb; have HB := n0_; clear n0_))
    go_ret
    first | exact ⟨_, rfl, HOL.out, HB.1⟩ | exact ⟨rfl, HOL.out, HB.1⟩
  rw [if_neg ci] at H
  obtain rfl := Option.some.inj H
  have h := HH.out
  rw [if_pos rfl] at h
  clear H HH
  obtain ⟨m, hm, h⟩ := Option.bind_eq_some_iff.mp h
  have AM := zM hm
  clear hm
  cases m with
  | false =>
   rw [if_neg (by decide)] at h
   obtain rfl := Option.some.inj h
   clear h
   go_wp2_with (first
    | (go_at_call 53; (refine (spec_l1Words.calls k A0 c0 l0 24 false _ (Kd.C_below HR0.1 HB.1) HC0.1 AM.out).mono ?_); rintro e w1 ⟨rfl, hd⟩; have n0_ := zM (below_step HB.1 hd.below); clear HB hd; have HB := n0_; clear n0_)
    | ((with_reducible refine gate_dst (N := 34) rfl ?_); refine Kd.S_lit (Kd.slice 3 (Kd.int .i64)) (w0 := w) w.heap.size 24 ?hg (N := 34) ?hd (xs := ([] : List (List Int))) (inner := []) (ok := fun _ => True) (okp := fun _ => True) ?hr ?hp (fun _ hk => hk) trivial HB.1 HB.1.size (by simp) ?_; (case hd => rfl); (case hg => rfl); (case hr => exact zHH); (case hp => exact (Reps.none _ _)); intro v4 w4 ho hb hg_ hnew_; have HOL := zM ho; have HNW := zM hnew_; have n0_ := zM hb; clear HB hg_ hnew_ ho hb; have HB := n0_; clear n0_))
   go_ret
   first | exact ⟨_, rfl, HOL.out, HB.1⟩ | exact ⟨rfl, HOL.out, HB.1⟩
  | true =>
  rw [if_pos rfl] at h
  by_cases c3 : (l1.length : Int) > 3
  ·rw [if_pos c3] at h
   obtain rfl := Option.some.inj h
   clear h
   have d3 : decide ((l1.length : Int) > 3) = true := decide_eq_true c3
   go_wp2_with (first
    | (go_at_call 53; (refine (spec_l1Words.calls k A0 c0 l0 24 true _ (Kd.C_below HR0.1 HB.1) HC0.1 AM.out).mono ?_); rintro e w1 ⟨rfl, hd⟩; have n0_ := zM (below_step HB.1 hd.below); clear HB hd; have HB := n0_; clear n0_)
    | ((with_reducible refine gate_dst (N := 34) rfl ?_); refine Kd.S_lit (Kd.slice 3 (Kd.int .i64)) (w0 := w) w.heap.size 24 ?hg (N := 34) ?hd (xs := ([] : List (List Int))) (inner := []) (ok := fun _ => True) (okp := fun _ => True) ?hr ?hp (fun _ hk => hk) trivial HB.1 HB.1.size (by simp) ?_; (case hd => rfl); (case hg => rfl); (case hr => exact zHH); (case hp => exact (Reps.none _ _)); intro v4 w4 ho hb hg_ hnew_; have HOL := zM ho; have HNW := zM hnew_; have n0_ := zM hb; clear HB hg_ hnew_ ho hb; have HB := n0_; clear n0_))
   go_ret
   first | exact ⟨_, rfl, HOL.out, HB.1⟩ | exact ⟨rfl, HOL.out, HB.1⟩
  rw [if_neg c3] at h
  have d3 : decide ((l1.length : Int) > 3) = false := decide_eq_false c3
  obtain ⟨t, ht, h⟩ := Option.bind_eq_some_iff.mp h
  have AT := zM ht
  clear ht
  cases t with
  | false =>
   rw [if_neg (by decide)] at h
   obtain rfl := Option.some.inj h
   clear h
   go_wp2_with (first
    | (go_at_call 53; (refine (spec_l1Words.calls k A0 c0 l0 24 true _ (Kd.C_below HR0.1 HB.1) HC0.1 AM.out).mono ?_); rintro e w1 ⟨rfl, hd⟩; have n0_ := zM (below_step HB.1 hd.below); clear HB hd; have HB := n0_; clear n0_)
    | (go_at_call 49; (refine (spec_l1In.calls a2 0 12 false _ AT.out).mono ?_); rintro e w2 ⟨rfl, hd⟩; have n0_ := zM (below_step HB.1 hd.below); clear HB hd; have HB := n0_; clear n0_)
    | ((with_reducible refine gate_dst (N := 34) rfl ?_); refine Kd.S_lit (Kd.slice 3 (Kd.int .i64)) (w0 := w) w.heap.size 24 ?hg (N := 34) ?hd (xs := ([] : List (List Int))) (inner := []) (ok := fun _ => True) (okp := fun _ => True) ?hr ?hp (fun _ hk => hk) trivial HB.1 HB.1.size (by simp) ?_; (case hd => rfl); (case hg => rfl); (case hr => exact zHH); (case hp => exact (Reps.none _ _)); intro v4 w4 ho hb hg_ hnew_; have HOL := zM ho; have HNW := zM hnew_; have n0_ := zM hb; clear HB hg_ hnew_ ho hb; have HB := n0_; clear n0_))
   go_ret
   first | exact ⟨_, rfl, HOL.out, HB.1⟩ | exact ⟨rfl, HOL.out, HB.1⟩
  | true =>
   rw [if_pos rfl] at h
   have AG := zM h
   clear h
   go_wp2_with (first
    | (go_at_call 53; (refine (spec_l1Words.calls k A0 c0 l0 24 true _ (Kd.C_below HR0.1 HB.1) HC0.1 AM.out).mono ?_); rintro e w1 ⟨rfl, hd⟩; have n0_ := zM (below_step HB.1 hd.below); clear HB hd; have HB := n0_; clear n0_)
    | (go_at_call 49; (refine (spec_l1In.calls a2 0 12 true _ AT.out).mono ?_); rintro e w2 ⟨rfl, hd⟩; have n0_ := zM (below_step HB.1 hd.below); clear HB hd; have HB := n0_; clear n0_)
    | ((with_reducible refine gate_dst (N := 35) rfl ?_); refine Kd.S_lit (Kd.slice 3 (Kd.int .i64)) (w0 := w) w.heap.size 24 ?hg (N := 35) ?hd (xs := ([] : List (List Int))) (inner := []) (ok := fun _ => True) (okp := fun _ => True) ?hr ?hp (fun _ hk => hk) trivial HB.1 HB.1.size (by simp) ?_; (case hd => rfl); (case hg => rfl); (case hr => exact zHH); (case hp => exact (Reps.none _ _)); intro v4 w4 ho hb hg_ hnew_; have HOL := zM ho; have HNW := zM hnew_; have n0_ := zM hb; clear HB hg_ hnew_ ho hb; have HB := n0_; clear n0_)
    | (go_at_call 54; (refine (spec_l29Go.calls k v4 [] A0 c0 l0 A1 c1 l1 a2 r w _ HB.1 (Kd.S_mono HOL.out (fun _ _ => trivial)) (Kd.F_mono (Kd.F_below (Kd.C_F (Kd.heap_int .i64) HR0.1) HB.1) (fun k hk e_ => Nat.lt_irrefl _ (Nat.lt_of_lt_of_le hk (Kd.S_base HOL.out k e_.symm)))) HC0.1 (Kd.F_mono (Kd.F_below (Kd.C_F heap_kH HR1.1) HB.1) (fun k hk e_ => Nat.lt_irrefl _ (Nat.lt_of_lt_of_le hk (Kd.S_base HOL.out k e_.symm)))) HC1.1 AG.out).mono ?_); rintro e w5 ⟨v5, rfl, hs, _, _, hb⟩; have HO5 := zM hs; have n0_ := zM hb; clear HB hs hb; have HB := n0_; clear n0_))
   go_ret
   first | exact ⟨_, rfl, HO5.1, HB.1⟩ | exact ⟨rfl, HO5.1, HB.1⟩

-- NOT PRINTED: function 92 (slices_IndexFunc_int_int_92)

-- NOT PRINTED: function 70 (slices_ContainsFunc_int_int_70)

/-! ### impl_from: function 43 -/
def impl_from.f (a0 : Int) (a1 : Int) (a2 : Int) : Option (Bool) := if a0 ≥ a1 then (some (decide (a0 ≤ a2))) else (some false)
theorem impl_from.calls (a0 : Int) (a1 : Int) (a2 : Int) (r : Bool) (w : World) (h : impl_from.f a0 a1 a2 = some r) :
  Calls Try.prog 43 #[.int .i64 a0, .int .i64 a1, .int .i64 a2] w fun e w' => e = .returned (.bool r) ∧ Drawn0 w w' := by
 unfold impl_from.f at h
 have H := h
 clear h
 by_cases c4 : a0 ≥ a1
 ·rw [if_pos c4] at H
  have c4b0 := decide_eq_true c4
  clear c4
  obtain rfl := Option.some.inj H
  go_enter Try.func43, Try.ntmps43
  go_wp2
  go_ret
  exact ⟨zJJ, zDD⟩
 rw [if_neg c4] at H
 have c4b0 := decide_eq_false c4
 clear c4
 obtain rfl := Option.some.inj H
 go_enter Try.func43, Try.ntmps43
 go_wp2
 go_ret
 exact ⟨zJJ, zDD⟩

/-! ### impl_isWord: function 72 -/
def impl_isWord.f (a0 : Int) : Option (Bool) := (impl_from.f a0 0 65535).bind fun t242 => (some t242)
theorem impl_isWord.calls (a0 : Int) (r : Bool) (w : World) (h : impl_isWord.f a0 = some r) :
  Calls Try.prog 72 #[.int .i64 a0] w fun e w' => e = .returned (.bool r) ∧ Drawn0 w w' := by
 unfold impl_isWord.f at h
 have H := h
 clear h
 replace H := zO H
 obtain ⟨t242, A2, H⟩ := H
 obtain rfl := Option.some.inj H
 go_enter Try.func72, Try.ntmps72
 go_wp2_with (first | ((with_reducible refine zG Try.func43 4 #[.int .i64 a0, .int .i64 0, .int .i64 65535] ?_); (with_reducible refine (impl_from.calls a0 0 65535 t242 _ A2.1).mono ?_); rintro e w' ⟨rfl, ⟨nd, rfl⟩⟩; refine ⟨_, rfl, ?_⟩))
 go_ret
 exact ⟨zJJ, zDD⟩

/-! ### impl_wordsOk_1: function 71 -/
def impl_wordsOk_1.f (a0 : Int) : Option (Bool) := (impl_isWord.f a0).bind fun t243 => (some (!t243))
theorem impl_wordsOk_1.calls (a0 : Int) (r : Bool) (w : World) (h : impl_wordsOk_1.f a0 = some r) :
  Calls Try.prog 71 #[.int .i64 a0] w fun e w' => e = .returned (.bool r) ∧ Drawn0 w w' := by
 unfold impl_wordsOk_1.f at h
 have H := h
 clear h
 replace H := zO H
 obtain ⟨t243, A2, H⟩ := H
 obtain rfl := Option.some.inj H
 go_enter Try.func71, Try.ntmps71
 go_wp2_with (first | ((with_reducible refine zG Try.func72 4 #[.int .i64 a0] ?_); (with_reducible refine (impl_isWord.calls a0 t243 _ A2.1).mono ?_); rintro e w' ⟨rfl, ⟨nd, rfl⟩⟩; refine ⟨_, rfl, ?_⟩))
 go_ret
 exact ⟨zJJ, zDD⟩

/-! ### slices_IndexFunc_at_impl_wordsOk_1: function 92 -/
def slices_IndexFunc_at_impl_wordsOk_1.l0 : Nat → List Int → Int → Int → Option (Int)
 | 0, _, _, _ => none
 | k + 1, x0, x7, x8 => if x8 < x7 then (if 0 ≤ x8 then (if x8 < (x0.length : Int) then ((impl_wordsOk_1.f (rd x0 x8)).bind fun t245 => (if t245 = true then (some x8) else (slices_IndexFunc_at_impl_wordsOk_1.l0 k x0 x7 (wrap64 (x8 + 1))))) else (none)) else (none)) else (some (-1))
def slices_IndexFunc_at_impl_wordsOk_1.f (k : Nat) (l0 : List Int) (a1 : Int) : Option (Int) := slices_IndexFunc_at_impl_wordsOk_1.l0 k l0 (l0.length : Int) 0
theorem slices_IndexFunc_at_impl_wordsOk_1.mono_l : ∀ k, (∀ y0 y1 y2, LeO (slices_IndexFunc_at_impl_wordsOk_1.l0 k y0 y1 y2) (slices_IndexFunc_at_impl_wordsOk_1.l0 (k + 1) y0 y1 y2))
 | 0 => fun _ _ _ r h => by simp [slices_IndexFunc_at_impl_wordsOk_1.l0] at h
 | k + 1 => by
  have ih0 := slices_IndexFunc_at_impl_wordsOk_1.mono_l k
  ·intros
   unfold slices_IndexFunc_at_impl_wordsOk_1.l0
   exact zL
theorem slices_IndexFunc_at_impl_wordsOk_1.mono : ∀ a0 a1 k, LeO (slices_IndexFunc_at_impl_wordsOk_1.f k a0 a1) (slices_IndexFunc_at_impl_wordsOk_1.f (k + 1) a0 a1) := by
 intro a0 a1 k
 have ih0 := slices_IndexFunc_at_impl_wordsOk_1.mono_l k
 unfold slices_IndexFunc_at_impl_wordsOk_1.f
 exact zL
theorem slices_IndexFunc_at_impl_wordsOk_1.calls (k : Nat) (A0 : Option Addr) (c0 : Nat) (l0 : List Int) (a1 : Int) (r : Int) (w : World) (hr0 : Kd.C (Kd.int .i64) w A0 l0.length l0) (hc0 : l0.length ≤ c0) (h : slices_IndexFunc_at_impl_wordsOk_1.f k l0 a1 = some r) :
  Calls Try.prog 92 #[.slice A0 l0.length c0, .func (.func 71) #[] #[]] w fun e w' => e = .returned (.int .i64 r) ∧ Drawn0 w w' := by
 have HR0 := zM hr0
 have HC0 := zM hc0
 clear hr0 hc0
 unfold slices_IndexFunc_at_impl_wordsOk_1.f at h
 have H := h
 clear h
 have H' := zM H
 clear H
 go_enter Try.func92, Try.ntmps92
 go_wp2
 go_loopg [8] k (fun kq v8 w' => ∃ (x8_1 : Int), v8 = .int .i64 x8_1 ∧ Aside0 (slices_IndexFunc_at_impl_wordsOk_1.l0 kq l0 (l0.length : Int) x8_1 = some r) ∧ Aside0 (kq ≤ k) ∧ Drawn0 w w')
 case atStart => exact ⟨(0), zJJ, H', ⟨Nat.le_refl _⟩, zDD⟩
 case round =>
  clear H'
  obtain ⟨x8_1, rfl, HA, HK1, ⟨m1, rfl⟩⟩ := hrel
  cases gk with
  | zero => exact absurd HA.1 (by simp [slices_IndexFunc_at_impl_wordsOk_1.l0])
  | succ k1 =>
   have H := HA.1
   clear HA
   simp only [slices_IndexFunc_at_impl_wordsOk_1.l0] at H
   by_cases c3 : x8_1 < (l0.length : Int)
   rotate_left
   ·rw [if_neg c3] at H
    have c3b0 := decide_eq_false c3
    clear c3
    obtain rfl := Option.some.inj H
    go_wp2
    go_ret
    exact ⟨zJJ, zDD⟩
   rw [if_pos c3] at H
   have c3b0 := decide_eq_true c3
   clear c3
   replace H := zIt H
   obtain ⟨c4b0, H⟩ := H
   replace H := zIt H
   obtain ⟨c5b0, H⟩ := H
   replace H := zO H
   obtain ⟨t245, A6, H⟩ := H
   by_cases c7 : t245 = true
   ·subst c7
    rw [if_pos rfl] at H
    obtain rfl := Option.some.inj H
    obtain ⟨p244, q244, ad244, e244, hx244_0⟩ := zRd (Kd.at_int HR0.1 x8_1)
    cases e244
    go_wp2_with (first | (go_at_call 71; (with_reducible refine (impl_wordsOk_1.calls (rd l0 x8_1) true _ A6.1).mono ?_); rintro e w' ⟨rfl, ⟨nd, rfl⟩⟩))
    go_ret
    exact ⟨zJJ, zDD⟩
   replace c7 := Bool.eq_false_iff.mpr c7
   subst c7
   rw [if_neg zF] at H
   have H' := zM H
   clear H
   obtain ⟨p244, q244, ad244, e244, hx244_0⟩ := zRd (Kd.at_int HR0.1 x8_1)
   cases e244
   go_wp2_with (first | (go_at_call 71; (with_reducible refine (impl_wordsOk_1.calls (rd l0 x8_1) false _ A6.1).mono ?_); rintro e w' ⟨rfl, ⟨nd, rfl⟩⟩))
   go_roundg k1
   case measure => have := HK1.1; omega
   case rel => exact ⟨(wrap64 (x8_1 + 1)), zJJ, H', ⟨by have := HK1.1; omega⟩, zDD⟩

/-! ### slices_ContainsFunc_at_impl_wordsOk_1: function 70 -/
def slices_ContainsFunc_at_impl_wordsOk_1.f (k : Nat) (l0 : List Int) (a1 : Int) : Option (Bool) := (slices_IndexFunc_at_impl_wordsOk_1.f k l0 0).bind fun t246 => (some (decide (t246 ≥ 0)))
theorem slices_ContainsFunc_at_impl_wordsOk_1.mono : ∀ a0 a1 k, LeO (slices_ContainsFunc_at_impl_wordsOk_1.f k a0 a1) (slices_ContainsFunc_at_impl_wordsOk_1.f (k + 1) a0 a1) := by
 intro a0 a1 k
 unfold slices_ContainsFunc_at_impl_wordsOk_1.f
 have mo0 := @slices_IndexFunc_at_impl_wordsOk_1.mono
 exact zL
theorem slices_ContainsFunc_at_impl_wordsOk_1.calls (k : Nat) (A0 : Option Addr) (c0 : Nat) (l0 : List Int) (a1 : Int) (r : Bool) (w : World) (hr0 : Kd.C (Kd.int .i64) w A0 l0.length l0) (hc0 : l0.length ≤ c0) (h : slices_ContainsFunc_at_impl_wordsOk_1.f k l0 a1 = some r) :
  Calls Try.prog 70 #[.slice A0 l0.length c0, .func (.func 71) #[] #[]] w fun e w' => e = .returned (.bool r) ∧ Drawn0 w w' := by
 have HR0 := zM hr0
 have HC0 := zM hc0
 clear hr0 hc0
 unfold slices_ContainsFunc_at_impl_wordsOk_1.f at h
 have H := h
 clear h
 replace H := zO H
 obtain ⟨t246, A3, H⟩ := H
 obtain rfl := Option.some.inj H
 go_enter Try.func70, Try.ntmps70
 go_wp2_with (first | ((with_reducible refine zG Try.func92 7 #[.slice A0 l0.length c0, .func (.func 71) #[] #[]] ?_); (with_reducible refine (slices_IndexFunc_at_impl_wordsOk_1.calls k _ _ l0 0 t246 _ ?side1 ?side2 A3.1).mono ?_); (case side1 => exact zC HR0.1); (case side2 => exact HC0.1); rintro e w' ⟨rfl, ⟨nd, rfl⟩⟩; refine ⟨_, rfl, ?_⟩))
 go_ret
 exact ⟨zJJ, zDD⟩

end Go.Proofs.Ytnjdepmlpdjghaa.PFnAllEnds
