-- made by wip/tools/myprint.py out of the seat's translation
import Derived.Test.YtnjdepmlpdjghaaPFnAllEndsx0
import Derived.Test.YtnjdepmlpdjghaaPFnAllEndsx7
import Derived.Test.YtnjdepmlpdjghaaPFnAllEndsx10
namespace Go.Proofs.Ytnjdepmlpdjghaa.PFnAllEnds
open Go.RowKit Go.Proofs.YtnjdepmlpdjghaaW.PrintWords Go.Proofs.YtnjdepmlpdjghaaW.PrintLast Go.Proofs.YtnjdepmlpdjghaaW.PrintMore
attribute [local go_sem] max2_int min2_int max_two min_two max_three min_three max_four min_four   -- for this text's walks alone
set_option linter.unusedVariables false
set_option linter.unusedSimpArgs false
set_option maxHeartbeats 8000000
set_option maxRecDepth 100000

/-! ### impl_SaveBytes: function 80 -/
mutual
def impl_SaveBytes.j0 : Nat → List Int → List (S29) → Bool → Option (List Int)
 | 0, _, _, _ => none
 | k + 1, x0, x1, x15 => if x15 = true then (some ([] : List Int)) else ((some (([((x1.length : Int)) % 256] : List Int) : List Int)).bind fun y349 => ((impl_MemBytes.f k x0).bind fun t352 => (if y349.length + t352.length < 140737488355328 then (impl_SaveBytes.l0 k (y349 ++ t352) x1 (x1.length : Int) 0) else (none))))
def impl_SaveBytes.l0 : Nat → List Int → List (S29) → Int → Int → Option (List Int)
 | 0, _, _, _, _ => none
 | k + 1, x5, x23, x24, x25 => if x25 < x24 then (if 0 ≤ x25 then (if x25 < (x23.length : Int) then ((impl_HartOk.f k ((rd_T29 x23 x25).f0) ((rd_T29 x23 x25).f1) ((rd_T29 x23 x25).f2)).bind fun t360 => (if t360 = true then ((impl_HartBytes.f k ((rd_T29 x23 x25).f0) ((rd_T29 x23 x25).f1) ((rd_T29 x23 x25).f2)).bind fun t361 => (if x5.length + t361.length < 140737488355328 then (impl_SaveBytes.l0 k (x5 ++ t361) x23 x24 (wrap64 (x25 + 1))) else (none))) else (some ([] : List Int)))) else (none)) else (none)) else (some x5)
end
def impl_SaveBytes.f (k : Nat) (l0 : List Int) (l1 : List (S29)) : Option (List Int) := (impl_memOk.f k l0).bind fun t348 => (if t348 = true then (impl_SaveBytes.j0 k l0 l1 (decide ((l1.length : Int) > 8))) else (impl_SaveBytes.j0 k l0 l1 true))
theorem impl_SaveBytes.mono_l : ∀ k, (∀ y0 y1 y2, LeO (impl_SaveBytes.j0 k y0 y1 y2) (impl_SaveBytes.j0 (k + 1) y0 y1 y2)) ∧ (∀ y0 y1 y2 y3, LeO (impl_SaveBytes.l0 k y0 y1 y2 y3) (impl_SaveBytes.l0 (k + 1) y0 y1 y2 y3))
 | 0 => ⟨fun _ _ _ r h => by simp [impl_SaveBytes.j0] at h, fun _ _ _ _ r h => by simp [impl_SaveBytes.l0] at h⟩
 | k + 1 => by
  obtain ⟨ih0, ih1⟩ := impl_SaveBytes.mono_l k
  refine ⟨?_, ?_⟩
  ·intros
   unfold impl_SaveBytes.j0
   have mo0 := @impl_HartBytes.mono
   have mo1 := @impl_HartOk.mono
   have mo2 := @impl_MemBytes.mono
   have mo3 := @impl_memOk.mono
   exact zL
  ·intros
   unfold impl_SaveBytes.l0
   have mo0 := @impl_HartBytes.mono
   have mo1 := @impl_HartOk.mono
   have mo2 := @impl_MemBytes.mono
   have mo3 := @impl_memOk.mono
   exact zL
theorem impl_SaveBytes.mono : ∀ a0 a1 k, LeO (impl_SaveBytes.f k a0 a1) (impl_SaveBytes.f (k + 1) a0 a1) := by
 intro a0 a1 k
 obtain ⟨ih0, ih1⟩ := impl_SaveBytes.mono_l k
 unfold impl_SaveBytes.f
 have mo0 := @impl_HartBytes.mono
 have mo1 := @impl_HartOk.mono
 have mo2 := @impl_MemBytes.mono
 have mo3 := @impl_memOk.mono
 exact zL
theorem impl_SaveBytes.calls (k : Nat) (A0 : Option Addr) (c0 : Nat) (l0 : List Int) (A1 : Option Addr) (c1 : Nat) (l1 : List (S29)) (r : List Int) (w : World) (hr0 : Kd.C (Kd.int .i64) w A0 l0.length l0) (hc0 : l0.length ≤ c0) (hr1 : Kd.C k29 w A1 l1.length l1) (hc1 : l1.length ≤ c1) (h : impl_SaveBytes.f k l0 l1 = some r) :
  Calls Try.prog 80 #[.slice A0 l0.length c0, .slice A1 l1.length c1] w fun e w' => ∃ v0_ : Value, e = .returned (v0_) ∧ Kd.R (Kd.int .u8) 5 w' w.heap.size (fun _ => True) v0_ r ∧ Below w.heap.size w w' := by
 have hu29 := Try.underlying29
 have HR0 := zM hr0
 have HC0 := zM hc0
 clear hr0 hc0
 have HR1 := zM hr1
 have HC1 := zM hc1
 clear hr1 hc1
 have HB := zM (Below.refl w.heap.size w)
 unfold impl_SaveBytes.f at h
 have H := h
 clear h
 have HC3 := zM H
 clear H
 go_enter Try.func80, Try.ntmps80
 go_upto_region 1 with (fail)
 go_cut [15] (fun v15 wc => ∃ (kq : Nat) (x15_2 : Bool), v15 = .bool x15_2 ∧ Aside0 (impl_SaveBytes.j0 kq l0 l1 x15_2 = some r) ∧ Aside0 (kq ≤ k) ∧ Aside0 (Below w.heap.size w wc))
 case first =>
  have H := HC3.1
  clear HC3
  replace H := zO H
  obtain ⟨t348, A4, H⟩ := H
  by_cases c5 : t348 = true
  ·subst c5
   rw [if_pos rfl] at H
   have H' := zM H
   clear H
   go_wp2_with (first | ((with_reducible refine zG Try.func42 9 #[.slice A0 l0.length c0] ?_); (with_reducible refine (impl_memOk.calls k _ _ l0 true _ ?side1 ?side2 A4.1).mono ?_); (case side1 => exact zC (Kd.C_below HR0.1 HB.1)); (case side2 => exact HC0.1); rintro e w' ⟨rfl, ⟨nd, rfl⟩⟩; refine ⟨_, rfl, ?_⟩))
   go_meet
   case rel => exact ⟨_, (decide ((l1.length : Int) > 8)), zJJ, H', ⟨by first | omega | exact Nat.le_refl _⟩, ⟨zB0⟩⟩
  replace c5 := Bool.eq_false_iff.mpr c5
  subst c5
  rw [if_neg zF] at H
  have H' := zM H
  clear H
  go_wp2_with (first | ((with_reducible refine zG Try.func42 9 #[.slice A0 l0.length c0] ?_); (with_reducible refine (impl_memOk.calls k _ _ l0 false _ ?side1 ?side2 A4.1).mono ?_); (case side1 => exact zC (Kd.C_below HR0.1 HB.1)); (case side2 => exact HC0.1); rintro e w' ⟨rfl, ⟨nd, rfl⟩⟩; refine ⟨_, rfl, ?_⟩))
  go_meet
  case rel => exact ⟨_, (true), zJJ, H', ⟨by first | omega | exact Nat.le_refl _⟩, ⟨zB0⟩⟩
 case rest =>
  clear HC3
  obtain ⟨kq, x15_2, rfl, HA, HJ2, HB⟩ := hcut
  cases kq with
  | zero => exact absurd HA.1 (by simp [impl_SaveBytes.j0])
  | succ kj2 =>
   have H := HA.1
   clear HA
   simp only [impl_SaveBytes.j0] at H
   by_cases c6 : x15_2 = true
   ·subst c6
    rw [if_pos rfl] at H
    obtain rfl := Option.some.inj H
    go_wp2
    go_ret
    exact ⟨_, zE, by first | exact Kd.R_nil _ _ _ _ _ | exact Kd.N_nil _ _ _ _ _ | exact Kd.V_nil _ _ _ _ _ | exact Kd.Q_nil _ _ _ _ _ | exact Kd.S_nil _ _ _ _ _, zB0⟩
   replace c6 := Bool.eq_false_iff.mpr c6
   subst c6
   rw [if_neg zF] at H
   replace H := zY H
   obtain ⟨y349, Ny349, H⟩ := H
   replace H := zO H
   obtain ⟨t352, A7, H⟩ := H
   replace H := zIn H
   obtain ⟨LMc8, H⟩ := H
   generalize hy355 : ((y349 ++ t352) : List Int) = y355 at H
   have Ny355 := zM hy355.symm
   clear hy355
   have H' := zM H
   clear H
   go_wp2_with (first | ((with_reducible refine gate_dst (N := 19) rfl ?_); (try (refine gate_guard (by rfl) ?_; dsimp only)); refine Kd.R_lit (Kd.int .u8) _ 5 ?hg (N := 19) ?hd (xs := ([((l1.length : Int)) % 256] : List Int)) (inner := [.int .u8 (((l1.length : Int)) % 256)]) (ok := fun _ => True) (okp := fun _ => True) ?hr ?hp (fun _ hk => hk) trivial (Below.refl _ _) (Nat.le_refl _) (by simp) ?_; (case hd => rfl); (case hg => rfl); (case hr => exact zHH); (case hp => exact (Reps.one (show Kd.M (Kd.int .u8) _ _ _ (((l1.length : Int)) % 256) [.int .u8 (((l1.length : Int)) % 256)] from rfl) (Reps.none _ _))); intro v350 w9 ho10 hb hg_ hnew_; clear hg_ hnew_; (first | rw [← Ny349.1] at ho10 | (simp only [Int.reduceToNat] at ho10; rw [← Ny349.1] at ho10)); have HO351 := zM (Kd.R_lower ho10 (below_size zB0)); replace HB := zM (below_step zB0 hb); clear hb ho10) | ((with_reducible refine zG Try.func108 21 #[.slice A0 l0.length c0] ?_); (with_reducible refine (impl_MemBytes.calls kj2 _ _ l0 t352 _ ?side1 ?side2 A7.1).mono ?_); (case side1 => exact zC (Kd.C_below HR0.1 HB.1)); (case side2 => exact HC0.1); rintro e w11 ⟨v353, rfl, ho0, hb⟩; refine ⟨_, rfl, ?_⟩; have HO354 := zM (Kd.R_lower (Kd.R_new' ho0 (Kd.R_lt (zR HO351.1))) (below_size zB0)); replace HO351 := zM (Kd.R_elder' (zR HO351.1) (Kd.R_base ho0) hb); replace HB := zM (below_step zB0 hb); clear hb ho0; obtain ⟨Ao13, co13, eo13⟩ := Kd.R_slice HO354.1; subst eo13) | ((with_reducible refine gate_builtin (b := .append) (xs := #[.tmp 19, .tmp 21]) rfl ?_); (try (refine gate_guard (by rfl) ?_; dsimp only)); at_builtin; refine Kd.R_append_rows (Kd.int .u8) (w0 := w) w.heap.size rfl (.tmp 19) (.tmp 21) 22 5 (.int .u8 0) 1 rfl Try.underlying22 info5 rfl (by decide) (by omega) v350 y349 t352 _ _ _ (fun k_ => some k_ ≠ (.slice Ao13 t352.length co13 : Value).ownBlock) (fun _ => False) rfl rfl ?aO ?aR (fun _ _ h => h) (fun _ h => h.elim) ?aF ?aB ?aS ?aL ?_; (case aR => exact zC (Kd.R_reads' HO354.1).2.2); (case aB => exact zB0); (case aF => exact (fun k_ hk => Kd.fresh' (Kd.R_lt (zR HO354.1)) k_ hk)); (case aO => exact (by refine zrR ?_; exact Kd.R_mono HO351.1 (fun _ hk => hk.2))); (case aS => exact (below_size zB0)); (case aL => have := LMc8.out; omega); intro v356 w12 ho hb hg hat; rw [← Ny355.1] at ho; replace HO354 := zM (Kd.R_after (ok := (fun _ => True)) (zR HO354.1) hg hat); replace HB := zM hb; have HO357 := zM ho; clear HO351; clear ho hb hg hat))
   go_loopg [5, 25] kj2 (fun kq v5 v25 w' => ∃ (x5_2 : List Int) (x25_2 : Int), v25 = .int .i64 x25_2 ∧ Aside0 (impl_SaveBytes.l0 kq x5_2 l1 (l1.length : Int) x25_2 = some r) ∧ Aside0 (kq ≤ kj2) ∧ Aside0 (Kd.R (Kd.int .u8) 5 w' w.heap.size (fun _ => True) v5 x5_2) ∧ Aside0 (Below w.heap.size w w'))
   case atStart => exact ⟨(y355), (0), zJJ, H', ⟨Nat.le_refl _⟩, ⟨by refine zrR ?_; exact Kd.R_mono HO357.1 (fun _ hk => trivial)⟩, ⟨zB0⟩⟩
   case round =>
    clear H'
    obtain ⟨x5_2, x25_2, rfl, HA, HK2, HO_5, HB⟩ := hrel
    cases gk with
    | zero => exact absurd HA.1 (by simp [impl_SaveBytes.l0])
    | succ k2 =>
     have H := HA.1
     clear HA
     simp only [impl_SaveBytes.l0] at H
     by_cases c14 : x25_2 < (l1.length : Int)
     rotate_left
     ·rw [if_neg c14] at H
      have c14b0 := decide_eq_false c14
      clear c14
      obtain rfl := Option.some.inj H
      go_wp2
      go_ret
      exact ⟨_, zE, zR HO_5.1, zB0⟩
     rw [if_pos c14] at H
     have c14b0 := decide_eq_true c14
     clear c14
     replace H := zIt H
     obtain ⟨c15b0, H⟩ := H
     replace H := zIt H
     obtain ⟨c16b0, H⟩ := H
     replace H := zO H
     obtain ⟨t360, A17, H⟩ := H
     by_cases c18 : t360 = true
     rotate_left
     ·replace c18 := Bool.eq_false_iff.mpr c18
      subst c18
      rw [if_neg zF] at H
      obtain rfl := Option.some.inj H
      obtain ⟨p358, q358, ad358, A358_0, c358_0, e358, hx358_0, hx358_1, hx358_2, hl358_0, hi358_0⟩ := zRd (at_T29 HR1.1 x25_2)
      cases e358
      replace hx358_0 := zHx HB.1 hx358_0
      replace hx358_1 := zHx HB.1 hx358_1
      replace hx358_2 := zHx HB.1 hx358_2
      have HR358_0 := zM hi358_0
      have HC358_0 := zM hl358_0
      clear hi358_0 hl358_0
      go_wp2_with (first | ((with_reducible refine gate_dst (N := 7) rfl ?_); (try (refine gate_guard (by rfl) ?_; dsimp only)); (with_reducible refine zBx 7 29 #[.slice none 0 0, .int .i64 0, .int .i64 0] ?_); intro gb359 hg w28 hbox hb; replace HO_5 := zM (Kd.R_below (zR HO_5.1) hb); have BK359 := zM hbox; have GW359 := zM (zW hg (below_size zB0)); have GE359 := zM (zW hg (below_size zB0)); replace HB := zM (below_step zB0 hb); clear hb hbox hg; have hcz29 := zc_3 (w := w28) BK359.1) | ((with_reducible refine zG Try.func58 30 #[.agg #[.slice A358_0 ((rd_T29 l1 x25_2).f0).length c358_0, .int .i64 ((rd_T29 l1 x25_2).f1), .int .i64 ((rd_T29 l1 x25_2).f2)]] ?_); (with_reducible refine (impl_HartOk.calls k2 _ _ ((rd_T29 l1 x25_2).f0) ((rd_T29 l1 x25_2).f1) ((rd_T29 l1 x25_2).f2) false _ ?side1 ?side2 A17.1).mono ?_); (case side1 => exact Kd.C_below HR358_0.1 zB0); (case side2 => exact HC358_0.1); rintro e w30 ⟨rfl, hb⟩; refine ⟨_, rfl, ?_⟩; replace HO_5 := zM (Kd.R_below (by refine zrR ?_; exact (Kd.R_mono (zfR (zfR (zfR (Kd.R_types HO_5.1 BK359.1 (by decide))))) (fun _ h_ => h_.1))) hb); replace BK359 := zM (blk_below (g := gb359) (o := .cells #[.slice A358_0 ((rd_T29 l1 x25_2).f0).length c358_0, .int .i64 ((rd_T29 l1 x25_2).f1), .int .i64 ((rd_T29 l1 x25_2).f2)] 29 (0, 0)) (by exact zp3 (zK BK359.1)) hb); replace HB := zM (below_step zB0 hb); clear hb))
      go_ret
      exact ⟨_, zE, by first | exact Kd.R_nil _ _ _ _ _ | exact Kd.N_nil _ _ _ _ _ | exact Kd.V_nil _ _ _ _ _ | exact Kd.Q_nil _ _ _ _ _ | exact Kd.S_nil _ _ _ _ _, zB0⟩
     subst c18
     rw [if_pos rfl] at H
     replace H := zO H
     obtain ⟨t361, A19, H⟩ := H
     replace H := zIn H
     obtain ⟨LMc20, H⟩ := H
     generalize hy364 : ((x5_2 ++ t361) : List Int) = y364 at H
     have Ny364 := zM hy364.symm
     clear hy364
     have H' := zM H
     clear H
     obtain ⟨p358, q358, ad358, A358_0, c358_0, e358, hx358_0, hx358_1, hx358_2, hl358_0, hi358_0⟩ := zRd (at_T29 HR1.1 x25_2)
     cases e358
     replace hx358_0 := zHx HB.1 hx358_0
     replace hx358_1 := zHx HB.1 hx358_1
     replace hx358_2 := zHx HB.1 hx358_2
     have HR358_0 := zM hi358_0
     have HC358_0 := zM hl358_0
     clear hi358_0 hl358_0
     go_wp2_with (first | ((with_reducible refine gate_dst (N := 7) rfl ?_); (try (refine gate_guard (by rfl) ?_; dsimp only)); (with_reducible refine zBx 7 29 #[.slice none 0 0, .int .i64 0, .int .i64 0] ?_); intro gb359 hg w21 hbox hb; replace HO_5 := zM (Kd.R_below (zR HO_5.1) hb); have BK359 := zM hbox; have GW359 := zM (zW hg (below_size zB0)); have GE359 := zM (zW hg (below_size zB0)); replace HB := zM (below_step zB0 hb); clear hb hbox hg; have hcz22 := zc_3 (w := w21) BK359.1) | ((with_reducible refine zG Try.func58 30 #[.agg #[.slice A358_0 ((rd_T29 l1 x25_2).f0).length c358_0, .int .i64 ((rd_T29 l1 x25_2).f1), .int .i64 ((rd_T29 l1 x25_2).f2)]] ?_); (with_reducible refine (impl_HartOk.calls k2 _ _ ((rd_T29 l1 x25_2).f0) ((rd_T29 l1 x25_2).f1) ((rd_T29 l1 x25_2).f2) true _ ?side1 ?side2 A17.1).mono ?_); (case side1 => exact Kd.C_below HR358_0.1 zB0); (case side2 => exact HC358_0.1); rintro e w23 ⟨rfl, hb⟩; refine ⟨_, rfl, ?_⟩; replace HO_5 := zM (Kd.R_below (by refine zrR ?_; exact (Kd.R_mono (zfR (zfR (zfR (Kd.R_types HO_5.1 BK359.1 (by decide))))) (fun _ h_ => h_.1))) hb); replace BK359 := zM (blk_below (g := gb359) (o := .cells #[.slice A358_0 ((rd_T29 l1 x25_2).f0).length c358_0, .int .i64 ((rd_T29 l1 x25_2).f1), .int .i64 ((rd_T29 l1 x25_2).f2)] 29 (0, 0)) (by exact zp3 (zK BK359.1)) hb); replace HB := zM (below_step zB0 hb); clear hb; have hcz24 := zc_3 (w := w23) BK359.1) | ((with_reducible refine zG Try.func109 34 #[.agg #[.slice A358_0 ((rd_T29 l1 x25_2).f0).length c358_0, .int .i64 ((rd_T29 l1 x25_2).f1), .int .i64 ((rd_T29 l1 x25_2).f2)]] ?_); (with_reducible refine (impl_HartBytes.calls k2 _ _ ((rd_T29 l1 x25_2).f0) ((rd_T29 l1 x25_2).f1) ((rd_T29 l1 x25_2).f2) t361 _ ?side1 ?side2 A19.1).mono ?_); (case side1 => exact zC (Kd.C_below HR358_0.1 HB.1)); (case side2 => exact HC358_0.1); rintro e w25 ⟨v362, rfl, ho0, hb⟩; refine ⟨_, rfl, ?_⟩; have HO363 := zM (Kd.R_lower (Kd.R_new' ho0 (Kd.R_lt (zR HO_5.1))) (below_size zB0)); replace HO_5 := zM (Kd.R_elder' (zR HO_5.1) (Kd.R_base ho0) hb); replace BK359 := zM (zb BK359.1 hb); replace HB := zM (below_step zB0 hb); clear hb ho0; obtain ⟨Ao27, co27, eo27⟩ := Kd.R_slice HO363.1; subst eo27) | ((with_reducible refine gate_builtin (b := .append) (xs := #[.tmp 32, .tmp 34]) rfl ?_); (try (refine gate_guard (by rfl) ?_; dsimp only)); at_builtin; refine Kd.R_append_rows (Kd.int .u8) (w0 := w) w.heap.size rfl (.tmp 32) (.tmp 34) 22 5 (.int .u8 0) 1 rfl Try.underlying22 info5 rfl (by decide) (by omega) u5 x5_2 t361 _ _ _ (fun k_ => some k_ ≠ (.slice Ao27 t361.length co27 : Value).ownBlock) (fun _ => False) rfl rfl ?aO ?aR (fun _ _ h => h) (fun _ h => h.elim) ?aF ?aB ?aS ?aL ?_; (case aR => exact zC (Kd.R_reads' HO363.1).2.2); (case aB => exact zB0); (case aF => exact (fun k_ hk => Kd.fresh' (Kd.R_lt (zR HO363.1)) k_ hk)); (case aO => exact (by refine zrR ?_; exact Kd.R_mono HO_5.1 (fun _ hk => hk.2))); (case aS => exact (below_size zB0)); (case aL => have := LMc20.out; omega); intro v365 w26 ho hb hg hat; rw [← Ny364.1] at ho; replace BK359 := zM (zg BK359.1 hg (Kd.R_ne HO_5.1 BK359.1 (by decide))); replace HO363 := zM (Kd.R_after (ok := (fun _ => True)) (zR HO363.1) hg hat); replace HB := zM hb; have HO366 := zM ho; clear HO_5; clear ho hb hg hat))
     go_roundg k2
     case measure => have := HJ2.1; have := HK2.1; omega
     case rel => exact ⟨(y364), (wrap64 (x25_2 + 1)), zJJ, H', ⟨by have := HJ2.1; have := HK2.1; omega⟩, ⟨by refine zrR ?_; exact Kd.R_mono HO366.1 (fun _ hk => trivial)⟩, ⟨zB0⟩⟩

-- NOT PRINTED: function 81 (impl_Hart_81)

-- NOT PRINTED: function 110 (slices_IndexFunc_int_int_110)

-- NOT PRINTED: function 82 (slices_ContainsFunc_int_int_82)

/-! ### slices_Equal_int_int: function 45 -/
def slices_Equal_int_int.l0 : Nat → List Int → List Int → Int → Int → Option (Bool)
 | 0, _, _, _, _ => none
 | k + 1, x0, x1, x12, x13 => if x13 < x12 then (if 0 ≤ x13 then (if x13 < (x0.length : Int) then (if x13 < (x1.length : Int) then (if (rd x0 x13) = (rd x1 x13) then (slices_Equal_int_int.l0 k x0 x1 x12 (wrap64 (x13 + 1))) else (some false)) else (none)) else (none)) else (none)) else (some true)
def slices_Equal_int_int.f (k : Nat) (l0 : List Int) (l1 : List Int) : Option (Bool) := if (l0.length : Int) = (l1.length : Int) then (slices_Equal_int_int.l0 k l0 l1 (l0.length : Int) 0) else (some false)
theorem slices_Equal_int_int.mono_l : ∀ k, (∀ y0 y1 y2 y3, LeO (slices_Equal_int_int.l0 k y0 y1 y2 y3) (slices_Equal_int_int.l0 (k + 1) y0 y1 y2 y3))
 | 0 => fun _ _ _ _ r h => by simp [slices_Equal_int_int.l0] at h
 | k + 1 => by
  have ih0 := slices_Equal_int_int.mono_l k
  ·intros
   unfold slices_Equal_int_int.l0
   exact zL
theorem slices_Equal_int_int.mono : ∀ a0 a1 k, LeO (slices_Equal_int_int.f k a0 a1) (slices_Equal_int_int.f (k + 1) a0 a1) := by
 intro a0 a1 k
 have ih0 := slices_Equal_int_int.mono_l k
 unfold slices_Equal_int_int.f
 exact zL
theorem slices_Equal_int_int.calls (k : Nat) (A0 : Option Addr) (c0 : Nat) (l0 : List Int) (A1 : Option Addr) (c1 : Nat) (l1 : List Int) (r : Bool) (w : World) (hr0 : Kd.C (Kd.int .i64) w A0 l0.length l0) (hc0 : l0.length ≤ c0) (hr1 : Kd.C (Kd.int .i64) w A1 l1.length l1) (hc1 : l1.length ≤ c1) (h : slices_Equal_int_int.f k l0 l1 = some r) :
  Calls Try.prog 45 #[.slice A0 l0.length c0, .slice A1 l1.length c1] w fun e w' => e = .returned (.bool r) ∧ Drawn0 w w' := by
 have HR0 := zM hr0
 have HC0 := zM hc0
 clear hr0 hc0
 have HR1 := zM hr1
 have HC1 := zM hc1
 clear hr1 hc1
 unfold slices_Equal_int_int.f at h
 have H := h
 clear h
 by_cases c3 : (l0.length : Int) = (l1.length : Int)
 rotate_left
 ·rw [if_neg c3] at H
  have c3b0 : ((l0.length : Int) == (l1.length : Int)) = false := beq_eq_false_iff_ne.mpr c3
  have c3b1 : ((l0.length : Int) != (l1.length : Int)) = true := bne_iff_ne.mpr c3
  have c3b2 : (l0.length == l1.length) = false := by first | simpa using c3 | (simp at c3 ⊢; omega)
  obtain rfl := Option.some.inj H
  go_enter Try.func45, Try.ntmps45
  go_wp2
  repeat (go_quiet (fail); try go_wp2)
  go_ret
  exact ⟨zJJ, zDD⟩
 rw [if_pos c3] at H
 have c3b0 : ((l0.length : Int) == (l1.length : Int)) = true := beq_iff_eq.mpr c3
 have c3b1 : ((l0.length : Int) != (l1.length : Int)) = false := bne_eq_false_iff_eq.mpr c3
 have c3b2 : (l0.length == l1.length) = true := by first | simpa using c3 | (simp at c3 ⊢; omega)
 clear c3
 have H' := zM H
 clear H
 go_enter Try.func45, Try.ntmps45
 go_wp2
 repeat (go_quiet (fail); try go_wp2)
 go_loopg [13] k (fun kq v13 w' => ∃ (x13_1 : Int), v13 = .int .i64 x13_1 ∧ Aside0 (slices_Equal_int_int.l0 kq l0 l1 (l0.length : Int) x13_1 = some r) ∧ Aside0 (kq ≤ k) ∧ Drawn0 w w')
 case atStart => exact ⟨(0), zJJ, H', ⟨Nat.le_refl _⟩, zDD⟩
 case round =>
  clear H'
  obtain ⟨x13_1, rfl, HA, HK1, ⟨m1, rfl⟩⟩ := hrel
  cases gk with
  | zero => exact absurd HA.1 (by simp [slices_Equal_int_int.l0])
  | succ k1 =>
   have H := HA.1
   clear HA
   simp only [slices_Equal_int_int.l0] at H
   by_cases c4 : x13_1 < (l0.length : Int)
   rotate_left
   ·rw [if_neg c4] at H
    have c4b0 := decide_eq_false c4
    clear c4
    obtain rfl := Option.some.inj H
    go_wp2
    repeat (go_quiet (fail); try go_wp2)
    go_ret
    exact ⟨zJJ, zDD⟩
   rw [if_pos c4] at H
   have c4b0 := decide_eq_true c4
   clear c4
   replace H := zIt H
   obtain ⟨c5b0, H⟩ := H
   replace H := zIt H
   obtain ⟨c6b0, H⟩ := H
   replace H := zIt H
   obtain ⟨c7b0, H⟩ := H
   by_cases c8 : (rd l0 x13_1) = (rd l1 x13_1)
   rotate_left
   ·rw [if_neg c8] at H
    have c8b0 : ((rd l0 x13_1) == (rd l1 x13_1)) = false := beq_eq_false_iff_ne.mpr c8
    have c8b1 : ((rd l0 x13_1) != (rd l1 x13_1)) = true := bne_iff_ne.mpr c8
    obtain rfl := Option.some.inj H
    obtain ⟨p367, q367, ad367, e367, hx367_0⟩ := zRd (Kd.at_int HR0.1 x13_1)
    cases e367
    obtain ⟨p368, q368, ad368, e368, hx368_0⟩ := zRd (Kd.at_int HR1.1 x13_1)
    cases e368
    go_wp2
    repeat (go_quiet (fail); try go_wp2)
    go_ret
    exact ⟨zJJ, zDD⟩
   rw [if_pos c8] at H
   have c8b0 : ((rd l0 x13_1) == (rd l1 x13_1)) = true := beq_iff_eq.mpr c8
   have c8b1 : ((rd l0 x13_1) != (rd l1 x13_1)) = false := bne_eq_false_iff_eq.mpr c8
   clear c8
   have H' := zM H
   clear H
   obtain ⟨p367, q367, ad367, e367, hx367_0⟩ := zRd (Kd.at_int HR0.1 x13_1)
   cases e367
   obtain ⟨p368, q368, ad368, e368, hx368_0⟩ := zRd (Kd.at_int HR1.1 x13_1)
   cases e368
   go_wp2
   repeat (go_quiet (fail); try go_wp2)
   go_roundg k1
   case measure => have := HK1.1; omega
   case rel => exact ⟨(wrap64 (x13_1 + 1)), zJJ, H', ⟨by have := HK1.1; omega⟩, zDD⟩

-- NOT PRINTED: function 83 (impl_finder_find_1)

-- NOT PRINTED: function 59 (impl_finder_find)

/-! ### slices_IndexFunc_at_impl_Ends2_1: function 79 -/
def slices_IndexFunc_at_impl_Ends2_1.l0 : Nat → List (S29) → Int → Int → Option (Int)
 | 0, _, _, _ => none
 | k + 1, x0, x7, x8 => if x8 < x7 then (if 0 ≤ x8 then (if x8 < (x0.length : Int) then ((impl_Ends2_1.f k ((rd_T29 x0 x8).f0) ((rd_T29 x0 x8).f1) ((rd_T29 x0 x8).f2)).bind fun t370 => (if t370 = true then (some x8) else (slices_IndexFunc_at_impl_Ends2_1.l0 k x0 x7 (wrap64 (x8 + 1))))) else (none)) else (none)) else (some (-1))
def slices_IndexFunc_at_impl_Ends2_1.f (k : Nat) (l0 : List (S29)) (a1 : Int) : Option (Int) := slices_IndexFunc_at_impl_Ends2_1.l0 k l0 (l0.length : Int) 0
theorem slices_IndexFunc_at_impl_Ends2_1.mono_l : ∀ k, (∀ y0 y1 y2, LeO (slices_IndexFunc_at_impl_Ends2_1.l0 k y0 y1 y2) (slices_IndexFunc_at_impl_Ends2_1.l0 (k + 1) y0 y1 y2))
 | 0 => fun _ _ _ r h => by simp [slices_IndexFunc_at_impl_Ends2_1.l0] at h
 | k + 1 => by
  have ih0 := slices_IndexFunc_at_impl_Ends2_1.mono_l k
  ·intros
   unfold slices_IndexFunc_at_impl_Ends2_1.l0
   have mo0 := @impl_Ends2_1.mono
   exact zL
theorem slices_IndexFunc_at_impl_Ends2_1.mono : ∀ a0 a1 k, LeO (slices_IndexFunc_at_impl_Ends2_1.f k a0 a1) (slices_IndexFunc_at_impl_Ends2_1.f (k + 1) a0 a1) := by
 intro a0 a1 k
 have ih0 := slices_IndexFunc_at_impl_Ends2_1.mono_l k
 unfold slices_IndexFunc_at_impl_Ends2_1.f
 have mo0 := @impl_Ends2_1.mono
 exact zL
theorem slices_IndexFunc_at_impl_Ends2_1.calls (k : Nat) (A0 : Option Addr) (c0 : Nat) (l0 : List (S29)) (a1 : Int) (r : Int) (w : World) (hr0 : Kd.C k29 w A0 l0.length l0) (hc0 : l0.length ≤ c0) (h : slices_IndexFunc_at_impl_Ends2_1.f k l0 a1 = some r) :
  Calls Try.prog 79 #[.slice A0 l0.length c0, .func (.func 57) #[] #[]] w fun e w' => e = .returned (.int .i64 r) ∧ Below w.heap.size w w' := by
 have hu29 := Try.underlying29
 have HR0 := zM hr0
 have HC0 := zM hc0
 clear hr0 hc0
 have HB := zM (Below.refl w.heap.size w)
 unfold slices_IndexFunc_at_impl_Ends2_1.f at h
 have H := h
 clear h
 have H' := zM H
 clear H
 go_enter Try.func79, Try.ntmps79
 go_wp2
 go_loopg [8] k (fun kq v8 w' => ∃ (x8_1 : Int), v8 = .int .i64 x8_1 ∧ Aside0 (slices_IndexFunc_at_impl_Ends2_1.l0 kq l0 (l0.length : Int) x8_1 = some r) ∧ Aside0 (kq ≤ k) ∧ Aside0 (Below w.heap.size w w'))
 case atStart => exact ⟨(0), zJJ, H', ⟨Nat.le_refl _⟩, ⟨zB0⟩⟩
 case round =>
  clear H'
  obtain ⟨x8_1, rfl, HA, HK1, HB⟩ := hrel
  cases gk with
  | zero => exact absurd HA.1 (by simp [slices_IndexFunc_at_impl_Ends2_1.l0])
  | succ k1 =>
   have H := HA.1
   clear HA
   simp only [slices_IndexFunc_at_impl_Ends2_1.l0] at H
   by_cases c3 : x8_1 < (l0.length : Int)
   rotate_left
   ·rw [if_neg c3] at H
    have c3b0 := decide_eq_false c3
    clear c3
    obtain rfl := Option.some.inj H
    go_wp2
    go_ret
    exact ⟨zE, zB0⟩
   rw [if_pos c3] at H
   have c3b0 := decide_eq_true c3
   clear c3
   replace H := zIt H
   obtain ⟨c4b0, H⟩ := H
   replace H := zIt H
   obtain ⟨c5b0, H⟩ := H
   replace H := zO H
   obtain ⟨t370, A6, H⟩ := H
   by_cases c7 : t370 = true
   ·subst c7
    rw [if_pos rfl] at H
    obtain rfl := Option.some.inj H
    obtain ⟨p369, q369, ad369, A369_0, c369_0, e369, hx369_0, hx369_1, hx369_2, hl369_0, hi369_0⟩ := zRd (at_T29 HR0.1 x8_1)
    cases e369
    replace hx369_0 := zHx HB.1 hx369_0
    replace hx369_1 := zHx HB.1 hx369_1
    replace hx369_2 := zHx HB.1 hx369_2
    have HR369_0 := zM hi369_0
    have HC369_0 := zM hl369_0
    clear hi369_0 hl369_0
    go_wp2_with (first | (go_at_call 57; (with_reducible refine (impl_Ends2_1.calls k1 _ _ ((rd_T29 l0 x8_1).f0) ((rd_T29 l0 x8_1).f1) ((rd_T29 l0 x8_1).f2) true _ ?side1 ?side2 A6.1).mono ?_); (case side1 => exact zC (Kd.C_below HR369_0.1 HB.1)); (case side2 => exact HC369_0.1); rintro e w8 ⟨rfl, hb⟩; have n0_ := zM (below_step zB0 hb); clear HB; have HB := n0_; clear n0_; clear hb))
    go_ret
    exact ⟨zE, zB0⟩
   replace c7 := Bool.eq_false_iff.mpr c7
   subst c7
   rw [if_neg zF] at H
   have H' := zM H
   clear H
   obtain ⟨p369, q369, ad369, A369_0, c369_0, e369, hx369_0, hx369_1, hx369_2, hl369_0, hi369_0⟩ := zRd (at_T29 HR0.1 x8_1)
   cases e369
   replace hx369_0 := zHx HB.1 hx369_0
   replace hx369_1 := zHx HB.1 hx369_1
   replace hx369_2 := zHx HB.1 hx369_2
   have HR369_0 := zM hi369_0
   have HC369_0 := zM hl369_0
   clear hi369_0 hl369_0
   go_wp2_with (first | (go_at_call 57; (with_reducible refine (impl_Ends2_1.calls k1 _ _ ((rd_T29 l0 x8_1).f0) ((rd_T29 l0 x8_1).f1) ((rd_T29 l0 x8_1).f2) false _ ?side1 ?side2 A6.1).mono ?_); (case side1 => exact zC (Kd.C_below HR369_0.1 HB.1)); (case side2 => exact HC369_0.1); rintro e w9 ⟨rfl, hb⟩; have n0_ := zM (below_step zB0 hb); clear HB; have HB := n0_; clear n0_; clear hb))
   go_roundg k1
   case measure => have := HK1.1; omega
   case rel => exact ⟨(wrap64 (x8_1 + 1)), zJJ, H', ⟨by have := HK1.1; omega⟩, ⟨zB0⟩⟩

/-! ### slices_ContainsFunc_at_impl_Ends2_1: function 56 -/
def slices_ContainsFunc_at_impl_Ends2_1.f (k : Nat) (l0 : List (S29)) (a1 : Int) : Option (Bool) := (slices_IndexFunc_at_impl_Ends2_1.f k l0 0).bind fun t371 => (some (decide (t371 ≥ 0)))
theorem slices_ContainsFunc_at_impl_Ends2_1.mono : ∀ a0 a1 k, LeO (slices_ContainsFunc_at_impl_Ends2_1.f k a0 a1) (slices_ContainsFunc_at_impl_Ends2_1.f (k + 1) a0 a1) := by
 intro a0 a1 k
 unfold slices_ContainsFunc_at_impl_Ends2_1.f
 have mo0 := @slices_IndexFunc_at_impl_Ends2_1.mono
 exact zL
theorem slices_ContainsFunc_at_impl_Ends2_1.calls (k : Nat) (A0 : Option Addr) (c0 : Nat) (l0 : List (S29)) (a1 : Int) (r : Bool) (w : World) (hr0 : Kd.C k29 w A0 l0.length l0) (hc0 : l0.length ≤ c0) (h : slices_ContainsFunc_at_impl_Ends2_1.f k l0 a1 = some r) :
  Calls Try.prog 56 #[.slice A0 l0.length c0, .func (.func 57) #[] #[]] w fun e w' => e = .returned (.bool r) ∧ Below w.heap.size w w' := by
 have HR0 := zM hr0
 have HC0 := zM hc0
 clear hr0 hc0
 have HB := zM (Below.refl w.heap.size w)
 unfold slices_ContainsFunc_at_impl_Ends2_1.f at h
 have H := h
 clear h
 replace H := zO H
 obtain ⟨t371, A3, H⟩ := H
 obtain rfl := Option.some.inj H
 go_enter Try.func56, Try.ntmps56
 go_wp2_with (first | ((with_reducible refine zG Try.func79 7 #[.slice A0 l0.length c0, .func (.func 57) #[] #[]] ?_); (with_reducible refine (slices_IndexFunc_at_impl_Ends2_1.calls k _ _ l0 0 t371 _ ?side1 ?side2 A3.1).mono ?_); (case side1 => exact zC HR0.1); (case side2 => exact HC0.1); rintro e w4 ⟨rfl, hb⟩; refine ⟨_, rfl, ?_⟩; replace HB := zM (below_step zB0 hb); clear hb))
 go_ret
 exact ⟨zE, zB0⟩

end Go.Proofs.Ytnjdepmlpdjghaa.PFnAllEnds
