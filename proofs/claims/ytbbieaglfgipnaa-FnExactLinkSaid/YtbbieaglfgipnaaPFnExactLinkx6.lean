-- made by wip/tools/myprint.py out of the seat's translation
import Derived.Test.YtbbieaglfgipnaaPFnExactLinkx0
import Derived.Test.YtbbieaglfgipnaaPFnExactLinkx5
namespace Go.Proofs.Ytbbieaglfgipnaa.PFnExactLink
open Go.RowKit Go.Proofs.YtbbieaglfgipnaaW.PrintWords Go.Proofs.YtbbieaglfgipnaaW.PrintLast Go.Proofs.YtbbieaglfgipnaaW.PrintMore
attribute [local go_sem] max2_int min2_int max_two min_two max_three min_three max_four min_four   -- for this text's walks alone
set_option linter.unusedVariables false
set_option linter.unusedSimpArgs false
theorem zc6_3 {w : World} {g : Nat} {a0 a1 a2 : Value} {t : TypeId} (h : w.heap[g]? = some (.cells #[a0, a1, a2] t (0, 0))) : w.cell? ⟨g, 0, none⟩ = some a0 ∧ w.cell? ⟨g, 1, none⟩ = some a1 ∧ w.cell? ⟨g, 2, none⟩ = some a2 ∧ w.frozen? ⟨g, 0, none⟩ = false ∧ w.frozen? ⟨g, 1, none⟩ = false ∧ w.frozen? ⟨g, 2, none⟩ = false := ⟨(blk_cell h 0).trans rfl, (blk_cell h 1).trans rfl, (blk_cell h 2).trans rfl, blk_frozen h 0, blk_frozen h 1, blk_frozen h 2⟩
theorem zc6_5 {w : World} {g : Nat} {a0 a1 a2 a3 a4 : Value} {t : TypeId} (h : w.heap[g]? = some (.cells #[a0, a1, a2, a3, a4] t (0, 0))) : w.cell? ⟨g, 0, none⟩ = some a0 ∧ w.cell? ⟨g, 1, none⟩ = some a1 ∧ w.cell? ⟨g, 2, none⟩ = some a2 ∧ w.cell? ⟨g, 3, none⟩ = some a3 ∧ w.cell? ⟨g, 4, none⟩ = some a4 ∧ w.frozen? ⟨g, 0, none⟩ = false ∧ w.frozen? ⟨g, 1, none⟩ = false ∧ w.frozen? ⟨g, 2, none⟩ = false ∧ w.frozen? ⟨g, 3, none⟩ = false ∧ w.frozen? ⟨g, 4, none⟩ = false := ⟨(blk_cell h 0).trans rfl, (blk_cell h 1).trans rfl, (blk_cell h 2).trans rfl, (blk_cell h 3).trans rfl, (blk_cell h 4).trans rfl, blk_frozen h 0, blk_frozen h 1, blk_frozen h 2, blk_frozen h 3, blk_frozen h 4⟩
theorem zR6 {p q : Prop} (x : q) (h : q → p := by intro h; (with_reducible repeat (first | apply Kd.R_alloc | apply Kd.R_drewN | apply Kd.R_drew)); exact h) : p := h x
theorem zK6 {p q : Prop} (x : q) (h : q → p := by intro h; (with_reducible repeat (first | refine blk_drewN ?_ _ | refine blk_drew ?_ | refine blk_alloc ?_ _)); exact h) : p := h x
theorem zA6 {p : Prop} [Decidable p] (h : decide p = true := by first | (with_reducible assumption) | assumption) : p := of_decide_eq_true h
theorem zT6 {p : Prop} (h : p := by (try simp only [List.map_toArray, List.map_cons, List.map_nil]); first | done | rfl | (simp only [List.length_drop, List.length_take]; rfl)) : p := h
theorem zb6 {W w w1 : World} {g : Nat} {o : Obj} (x : W.heap[g]? = some o) (hb : Below w.heap.size w w1) (h : W.heap[g]? = some o → w.heap[g]? = some o := by intro h; (with_reducible repeat (first | refine blk_drewN ?_ _ | refine blk_drew ?_ | refine blk_alloc ?_ _)); exact h) : w1.heap[g]? = some o := blk_below (h x) hb
theorem zE6 {p : Prop} (h : p := by first | rfl | (simp [errW_none, errW_some] <;> rfl) | (simp [*, errW_none, errW_some] <;> rfl)) : p := h
theorem zB6_0 {p : Prop} (h : p := by repeat (first | (with_reducible first | exact HK.out | apply Kept.alloc | apply Kept.drewN | apply Kept.drew) | exact HK.out)) : p := h
theorem zB6_1 {p : Prop} (h : p := by repeat (first | (with_reducible first | exact HB.out | apply below_alloc | apply pw_below_drewN | apply below_drew1) | exact HB.out)) : p := h
theorem zB6_2 {p : Prop} (h : p := by repeat (first | (with_reducible first | exact HB.out | apply below_alloc | apply pw_below_drewN | apply below_drew1 | refine below_set ?_ GE185.out) | exact HB.out)) : p := h
theorem zB6_3 {p : Prop} (h : p := by repeat (first | (with_reducible first | exact HB.out | apply below_alloc | apply pw_below_drewN | apply below_drew1 | refine below_set ?_ GE193.out) | exact HB.out)) : p := h
theorem zB6_4 {p : Prop} (h : p := by repeat (first | (with_reducible first | exact HB.out | apply below_alloc | apply pw_below_drewN | apply below_drew1 | refine below_set ?_ GE201.out) | exact HB.out)) : p := h

/-! ### laws_markRefS: function 97 -/
def laws_markRefS.l0 : Nat → List (S118) → Int → Int → Option (Int × (List (S118)))
 | 0, _, _, _ => none
 | k + 1, x0, x1, x5 => if x5 < (x0.length : Int) then (if 0 ≤ x5 then ((some (x0.set (x5 : Int).toNat (⟨x1, (rd_T118 x0 x5).f1⟩ : S118) : List (S118))).bind fun y182 => ((laws_markText.f k (wrap64 (x1 + 1))).bind fun t183 => (laws_markRefS.l0 k (y182.set (x5 : Int).toNat (⟨(rd_T118 y182 x5).f0, t183⟩ : S118)) (wrap64 ((wrap64 (x1 + 1)) + 1)) (wrap64 (x5 + 1))))) else (none)) else (some (x1, x0))
def laws_markRefS.f (k : Nat) (l0 : List (S118)) (a1 : Int) : Option (Int × (List (S118))) := laws_markRefS.l0 k l0 a1 0
theorem laws_markRefS.mono_l : ∀ k, (∀ y0 y1 y2, LeO (laws_markRefS.l0 k y0 y1 y2) (laws_markRefS.l0 (k + 1) y0 y1 y2))
 | 0 => fun _ _ _ r h => by simp [laws_markRefS.l0] at h
 | k + 1 => by
  have ih0 := laws_markRefS.mono_l k
  ·intro y0 y1 y2
   unfold laws_markRefS.l0
   repeat' first
   | (with_reducible exact ih0 _ _ _)
   | (with_reducible exact laws_markText.mono _ _)
   | (with_reducible exact LeO.refl _)
   | (with_reducible exact LeO.none _)
   | (with_reducible refine LeO.ite ?_ ?_)
   | (with_reducible refine LeO.bind ?_ (fun _ => ?_))
   | exact ih0 _ _ _
   | exact laws_markText.mono _ _
   | exact LeO.none _
   | refine LeO.ite ?_ ?_
   | refine LeO.bind ?_ (fun _ => ?_)
theorem laws_markRefS.mono : ∀ a0 a1 k, LeO (laws_markRefS.f k a0 a1) (laws_markRefS.f (k + 1) a0 a1) := by
 intro a0 a1 k
 have ih0 := laws_markRefS.mono_l k
 unfold laws_markRefS.f
 repeat' first
   | (with_reducible exact ih0 _ _ _)
   | (with_reducible exact laws_markText.mono _ _)
   | (with_reducible exact LeO.refl _)
   | (with_reducible exact LeO.none _)
   | (with_reducible refine LeO.ite ?_ ?_)
   | (with_reducible refine LeO.bind ?_ (fun _ => ?_))
   | exact ih0 _ _ _
   | exact laws_markText.mono _ _
   | exact LeO.none _
   | refine LeO.ite ?_ ?_
   | refine LeO.bind ?_ (fun _ => ?_)
set_option maxHeartbeats 8000000 in
set_option maxRecDepth 100000 in
theorem laws_markRefS.calls (k : Nat) (P0_ : Nat → Prop) (u9000_ : Value) (l0 : List (S118)) (a1 : Int) (r1 : Int) (r2 : List (S118)) (w0 w : World) (hB : Below w0.heap.size w0 w) (ho0 : Kd.R k118 118 w w0.heap.size P0_ u9000_ l0) (h : laws_markRefS.f k l0 a1 = some (r1, r2)) :
  Calls Try.prog 97 #[u9000_, .int .i64 a1] w fun e w' => e = .returned (.int .i64 r1) ∧ Kd.R k118 118 w' w0.heap.size (fun k_ => (P0_ k_ ∨ w.heap.size ≤ k_)) u9000_ r2 ∧ Below w0.heap.size w0 w' ∧ Kept w w' (fun k_ => P0_ k_) := by
 have HO0 := Aside0.mk (show Kd.R k118 118 w w0.heap.size (fun k_ => (P0_ k_ ∨ w.heap.size ≤ k_)) u9000_ l0 from Kd.R_mono ho0 (fun k_ hk => (.inl hk)))
 have HK := Aside0.mk (Kept.refl w (fun k_ => P0_ k_))
 have HW0 := Aside0.mk hB.size
 have HB := Aside0.mk hB
 clear hB
 have H : (laws_markRefS.l0 k l0 a1 0) = some (r1, r2) := h
 clear h
 have H' := Aside0.mk H
 clear H
 go_enter Try.func97, Try.ntmps97
 go_wp2
 go_loopg [1, 5] k (fun kq v1 v5 w' => ∃ (x0_1 : List (S118)) (x1_1 : Int) (x5_1 : Int), v1 = .int .i64 x1_1 ∧ v5 = .int .i64 x5_1 ∧ Aside0 (laws_markRefS.l0 kq x0_1 x1_1 x5_1 = some (r1, r2)) ∧ Aside0 (kq ≤ k) ∧ Aside0 (Kd.R k118 118 w' w0.heap.size (fun k_ => (P0_ k_ ∨ w.heap.size ≤ k_)) u9000_ x0_1) ∧ Aside0 (Kept w w' (fun k_ => P0_ k_)) ∧ Aside0 (Below w0.heap.size w0 w'))
 case atStart => exact ⟨(l0), (a1), (0), (by first | rfl | (simp; done) | (simp [*]; done)), (by first | rfl | (simp; done) | (simp [*]; done)), H', ⟨Nat.le_refl _⟩, ⟨zR6 HO0.out⟩, ⟨zB6_0⟩, ⟨zB6_1⟩⟩
 case round =>
  clear H'
  try clear p2
  obtain ⟨x0_1, x1_1, x5_1, rfl, rfl, HA, HK1, HO_0, HK, HB⟩ := hrel
  cases gk with
  | zero => exact absurd HA.out (by simp [laws_markRefS.l0])
  | succ k1 =>
   have H := HA.out
   clear HA
   simp only [laws_markRefS.l0] at H
   by_cases c3 : x5_1 < (x0_1.length : Int)
   rotate_left
   ·rw [if_neg c3] at H
    have c3b0 : decide (x5_1 < (x0_1.length : Int)) = false := decide_eq_false c3
    clear c3
    simp only [Option.some.injEq, Prod.mk.injEq] at H
    obtain ⟨rfl, rfl⟩ := H
    obtain ⟨Ao14, co14, eo14⟩ := Kd.R_slice HO_0.out
    subst eo14
    go_wp2
    go_ret
    exact ⟨zE6, zR6 HO_0.out, zB6_1, zB6_0⟩
   rw [if_pos c3] at H
   have c3b0 : decide (x5_1 < (x0_1.length : Int)) = true := decide_eq_true c3
   clear c3
   by_cases c4 : 0 ≤ x5_1
   rotate_left
   ·rw [if_neg c4] at H
    exact absurd H (by simp)
   rw [if_pos c4] at H
   have c4b0 : decide (0 ≤ x5_1) = true := decide_eq_true c4
   clear c4
   obtain ⟨y182, hy182⟩ : ∃ y_ : List (S118), y_ = (x0_1.set (x5_1 : Int).toNat (⟨x1_1, (rd_T118 x0_1 x5_1).f1⟩ : S118)) := ⟨_, rfl⟩
   replace H : ((laws_markText.f k1 (wrap64 (x1_1 + 1))).bind fun t183 => (laws_markRefS.l0 k1 (y182.set (x5_1 : Int).toNat (⟨(rd_T118 y182 x5_1).f0, t183⟩ : S118)) (wrap64 ((wrap64 (x1_1 + 1)) + 1)) (wrap64 (x5_1 + 1)))) = some (r1, r2) := by first | (rw [hy182]; with_reducible exact H) | (have H2_ := (Option.bind_some _ _).symm.trans H; rw [hy182]; with_reducible exact H2_) | (have H2_ := (Option.bind_some _ _).symm.trans H; with_reducible exact H2_) | with_reducible exact H | (rw [hy182]; exact H) | exact H
   have Ny182 := Aside0.mk hy182
   clear hy182
   replace H := Option.bind_eq_some_iff.mp H
   obtain ⟨t183, A60, H⟩ := H
   replace H : (laws_markRefS.l0 k1 (y182.set (x5_1 : Int).toNat (⟨(rd_T118 y182 x5_1).f0, t183⟩ : S118)) (wrap64 ((wrap64 (x1_1 + 1)) + 1)) (wrap64 (x5_1 + 1))) = some (r1, r2) := H
   have A6 := Aside0.mk A60
   clear A60
   obtain ⟨y184, hy184⟩ : ∃ y_ : List (S118), y_ = (y182.set (x5_1 : Int).toNat (⟨(rd_T118 y182 x5_1).f0, t183⟩ : S118)) := ⟨_, rfl⟩
   replace H : (laws_markRefS.l0 k1 y184 (wrap64 ((wrap64 (x1_1 + 1)) + 1)) (wrap64 (x5_1 + 1))) = some (r1, r2) := by first | (rw [hy184]; with_reducible exact H) | (have H2_ := (Option.bind_some _ _).symm.trans H; rw [hy184]; with_reducible exact H2_) | (have H2_ := (Option.bind_some _ _).symm.trans H; with_reducible exact H2_) | with_reducible exact H | (rw [hy184]; exact H) | exact H
   have Ny184 := Aside0.mk hy184
   clear hy184
   have H' := Aside0.mk H
   clear H
   obtain ⟨Ao8, co8, eo8⟩ := Kd.R_slice HO_0.out
   subst eo8
   have p5 : 0 ≤ (x5_1 : Int) := zA6
   have q5 : (x5_1 : Int) < ((x0_1.length : Int) : Int) := zA6
   obtain ⟨go5, co5, eo5, gb5, gl5, cl5, HG5⟩ := Kd.R_form HO_0.out (by omega)
   (first | cases eo5 | (injection eo5 with ea_ en_ ec_; (first | subst ea_ | (injection ea_ with ea_; subst ea_)); subst ec_; clear en_))
   have GB5 := Aside0.mk gb5
   have GG5 := Aside0.mk HG5
   clear gb5 gl5 HG5
   have HMgo5 := Aside0.mk (show (P0_ go5 ∨ w.heap.size ≤ go5) from (HO_0.out.1 _ rfl))
   obtain ⟨ce5, hcl5, hM5, hcc5, hfr5⟩ := Kd.R_elem HO_0.out z118 (x5_1 : Int) p5 q5
   obtain rfl := k118_openM hM5
   have hx5_0 : wr.cell? ⟨go5, (x5_1 : Int).toNat * 2, none⟩ = some (.int .i64 ((rd_T118 x0_1 x5_1).f0)) := hcc5 0 _ rfl
   have hx5_1 : wr.cell? ⟨go5, (x5_1 : Int).toNat * 2 + 1, none⟩ = some (.string ((rd_T118 x0_1 x5_1).f1)) := hcc5 1 _ rfl
   have hf5_0 : wr.frozen? ⟨go5, (x5_1 : Int).toNat * 2, none⟩ = false := hfr5 0
   have hf5_1 : wr.frozen? ⟨go5, (x5_1 : Int).toNat * 2 + 1, none⟩ = false := hfr5 1
   clear hcl5 hcc5 hfr5 hM5
   replace p5 := eq_true p5
   replace q5 := eq_true q5
   have HX9 := Aside0.mk (show Kd.R k118 118 wr w0.heap.size (fun k_ => (P0_ k_ ∨ w.heap.size ≤ k_)) (.slice (some ⟨go5, 0, none⟩) x0_1.length co8) x0_1 from (zR6 HO_0.out))
   obtain ⟨ce9, hcl9, hM9, hcc9, hfr9⟩ := Kd.R_elem HX9.out z118 (x5_1 : Int) (zA6) (by have h_ : (x5_1 : Int) < ((x0_1.length : Int) : Int) := zA6; first | exact h_ | (have e_ := (Kd.R_reads' HO_0.out).1; omega) | simpa using h_)
   obtain rfl := k118_openM hM9
   have HP9 := Kd.R_seg HX9.out (x5_1 : Int) (zA6) (by have h_ : (x5_1 : Int) < ((x0_1.length : Int) : Int) := zA6; first | exact h_ | (have e_ := (Kd.R_reads' HO_0.out).1; omega) | simpa using h_) (seg := [.int .i64 x1_1]) (j := 0) hcl9 hcc9 (show 1 ≤ 2 from by decide) (x' := (⟨x1_1, (rd_T118 x0_1 x5_1).f1⟩ : S118)) (k118_mkM _ _ _ (⟨x1_1, (rd_T118 x0_1 x5_1).f1⟩ : S118) ) (fun _ hk => hk)
   have hx9_0 := hcc9 0 _ rfl
   (try simp only [show (k118).sz = 2 from rfl, Nat.mul_one, Nat.add_zero] at hx9_0)
   have hf9_0 := hfr9 0
   (try simp only [show (k118).sz = 2 from rfl, Nat.mul_one, Nat.add_zero] at hf9_0)
   clear hcl9 hcc9 hfr9 hM9
   go_wp2_with (first | ((with_reducible refine gate_store (t := 3) (p := 16) rfl ?_); refine store_event (t := 3) (p := 16) (v := ?vo_w10) (w1 := (wr.setCell ⟨go5, (x5_1 : Int).toNat * 2, none⟩ (.int .i64 x1_1))) ?hg ?ho ?hn ?hr ?_; (case ho => rfl); (case hg => rfl); (case hn => rfl); (case hr => first | (go_simp; done) | (go_simp; rfl)); intro w10 hw; have hg : wr.grownBy w10 (some go5) := (by rw [hw]; exact HP9.2); have hp_ : Kd.R k118 118 w10 w0.heap.size (fun k_ => (P0_ k_ ∨ w.heap.size ≤ k_)) (.slice (some ⟨go5, 0, none⟩) x0_1.length co8) y182 := (by rw [hw, Ny182.out]; exact HP9.1); clear HP9; have n0_ := Aside0.mk (hp_); have n1_ := Aside0.mk ((by rw [hw]; exact below_set (HB.out) GB5.out : Below w0.heap.size w0 w10)); have n2_ := Aside0.mk (Kept.of_grown (S := (fun k_ => P0_ k_)) hg (zB6_0) (fun k_ e_ => (HO_0.out.1 k_ e_))); clear HO_0; clear HB; clear HK; have HO_0 := n0_; have HB := n1_; have HK := n2_; clear n0_ n1_ n2_; clear hg hw hp_) | ((with_reducible refine gate_callee (f := 95) rfl ?_); refine goesL_ (some 22) rfl rfl Try.func95 (by kernel_rfl) rfl #[.int .i64 (wrap64 (x1_1 + 1))] rfl zT6 ?_; (with_reducible refine (laws_markText.calls k1 (wrap64 (x1_1 + 1)) t183 _ A6.out).mono ?_); rintro e w11 ⟨rfl, hb⟩; refine ⟨_, rfl, ?_⟩; have n0_ := Aside0.mk (Kd.R_below (zR6 HO_0.out) hb); have n1_ := Aside0.mk (Kept.below (S := (fun k_ => P0_ k_)) (zB6_0) hb); have n2_ := Aside0.mk (below_step (zB6_1) hb); clear HO_0; clear HK; clear HB; have HO_0 := n0_; have HK := n1_; have HB := n2_; clear n0_ n1_ n2_; (try clear hb); (try clear hb2); (try clear hk); (try clear hi); have p7 : 0 ≤ (x5_1 : Int) := zA6; have q7 : (x5_1 : Int) < ((x0_1.length : Int) : Int) := zA6; obtain ⟨ce7, hcl7, hM7, hcc7, hfr7⟩ := Kd.R_elem HO_0.out z118 (x5_1 : Int) p7 q7; obtain rfl := k118_openM hM7; have hx7_0 : w11.cell? ⟨go5, (x5_1 : Int).toNat * 2, none⟩ = some (.int .i64 ((rd_T118 y182 x5_1).f0)) := hcc7 0 _ rfl; have hx7_1 : w11.cell? ⟨go5, (x5_1 : Int).toNat * 2 + 1, none⟩ = some (.string ((rd_T118 y182 x5_1).f1)) := hcc7 1 _ rfl; have hf7_0 : w11.frozen? ⟨go5, (x5_1 : Int).toNat * 2, none⟩ = false := hfr7 0; have hf7_1 : w11.frozen? ⟨go5, (x5_1 : Int).toNat * 2 + 1, none⟩ = false := hfr7 1; clear hcl7 hcc7 hfr7 hM7; replace p7 := eq_true p7; replace q7 := eq_true q7; have HX12 := Aside0.mk (show Kd.R k118 118 w11 w0.heap.size (fun k_ => (P0_ k_ ∨ w.heap.size ≤ k_)) (.slice (some ⟨go5, 0, none⟩) x0_1.length co8) y182 from (zR6 HO_0.out)); obtain ⟨ce12, hcl12, hM12, hcc12, hfr12⟩ := Kd.R_elem HX12.out z118 (x5_1 : Int) (zA6) (by have h_ : (x5_1 : Int) < ((x0_1.length : Int) : Int) := zA6; first | exact h_ | (have e_ := (Kd.R_reads' HO_0.out).1; omega) | simpa using h_); obtain rfl := k118_openM hM12; have HP12 := Kd.R_seg HX12.out (x5_1 : Int) (zA6) (by have h_ : (x5_1 : Int) < ((x0_1.length : Int) : Int) := zA6; first | exact h_ | (have e_ := (Kd.R_reads' HO_0.out).1; omega) | simpa using h_) (seg := [.string t183]) (j := 1) hcl12 hcc12 (show 2 ≤ 2 from by decide) (x' := (⟨(rd_T118 y182 x5_1).f0, t183⟩ : S118)) (k118_mkM _ _ _ (⟨(rd_T118 y182 x5_1).f0, t183⟩ : S118) ) (fun _ hk => hk); have hx12_1 := hcc12 1 _ rfl; (try simp only [show (k118).sz = 2 from rfl, Nat.mul_one, Nat.add_zero] at hx12_1); have hf12_1 := hfr12 1; (try simp only [show (k118).sz = 2 from rfl, Nat.mul_one, Nat.add_zero] at hf12_1); clear hcl12 hcc12 hfr12 hM12) | ((with_reducible refine gate_store (t := 9) (p := 24) rfl ?_); refine store_event (t := 9) (p := 24) (v := ?vo_w13) (w1 := (w11.setCell ⟨go5, (x5_1 : Int).toNat * 2 + 1, none⟩ (.string t183))) ?hg ?ho ?hn ?hr ?_; (case ho => rfl); (case hg => rfl); (case hn => rfl); (case hr => first | (go_simp; done) | (go_simp; rfl)); intro w13 hw; have hg : w11.grownBy w13 (some go5) := (by rw [hw]; exact HP12.2); have hp_ : Kd.R k118 118 w13 w0.heap.size (fun k_ => (P0_ k_ ∨ w.heap.size ≤ k_)) (.slice (some ⟨go5, 0, none⟩) x0_1.length co8) y184 := (by rw [hw, Ny184.out]; exact HP12.1); clear HP12; have n0_ := Aside0.mk (hp_); have n1_ := Aside0.mk ((by rw [hw]; exact below_set (HB.out) GB5.out : Below w0.heap.size w0 w13)); have n2_ := Aside0.mk (Kept.of_grown (S := (fun k_ => P0_ k_)) hg (zB6_0) (fun k_ e_ => (HO_0.out.1 k_ e_))); clear HO_0; clear HB; clear HK; have HO_0 := n0_; have HB := n1_; have HK := n2_; clear n0_ n1_ n2_; clear hg hw hp_))
   go_roundg k1
   case measure => have := HK1.out; omega
   case rel => exact ⟨(y184), (wrap64 ((wrap64 (x1_1 + 1)) + 1)), (wrap64 (x5_1 + 1)), (by first | rfl | (simp; done) | (simp [*]; done)), (by first | rfl | (simp; done) | (simp [*]; done)), H', ⟨by have := HK1.out; omega⟩, ⟨zR6 HO_0.out⟩, ⟨zB6_0⟩, ⟨zB6_1⟩⟩

/-! ### laws_markPartS: function 49 -/
def laws_markPartS.l0 : Nat → List S107 → Int → Int → Option (Int × List S107)
 | 0, _, _, _ => none
 | k + 1, x0, x1, x5 => if x5 < (x0.length : Int) then (if 0 ≤ x5 then ((laws_markText.f k x1).bind fun t => ((laws_markInsS.f k ((rd_T107 x0 x5).f1) (wrap64 (x1 + 1))).bind fun b => ((laws_markRefS.f k ((rd_T107 x0 x5).f2) b.1).bind fun c => laws_markPartS.l0 k (x0.set (x5 : Int).toNat ⟨t, b.2, c.2⟩) c.1 (wrap64 (x5 + 1))))) else none) else some (x1, x0)
def laws_markPartS.f (k : Nat) (l0 : List S107) (a1 : Int) : Option (Int × List S107) := laws_markPartS.l0 k l0 a1 0
theorem laws_markPartS.mono_l : ∀ k, (∀ y0 y1 y2, LeO (laws_markPartS.l0 k y0 y1 y2) (laws_markPartS.l0 (k + 1) y0 y1 y2))
 | 0 => fun _ _ _ r h => by simp [laws_markPartS.l0] at h
 | k + 1 => by
  have ih0 := laws_markPartS.mono_l k
  intro y0 y1 y2
  unfold laws_markPartS.l0
  repeat' first
   | (with_reducible exact ih0 _ _ _)
   | (with_reducible exact laws_markText.mono _ _)
   | (with_reducible exact laws_markInsS.mono _ _ _)
   | (with_reducible exact laws_markRefS.mono _ _ _)
   | (with_reducible exact LeO.refl _)
   | (with_reducible exact LeO.none _)
   | (with_reducible refine LeO.ite ?_ ?_)
   | (with_reducible refine LeO.bind ?_ (fun _ => ?_))
   | exact ih0 _ _ _
   | exact LeO.none _
   | refine LeO.ite ?_ ?_
   | refine LeO.bind ?_ (fun _ => ?_)
theorem laws_markPartS.mono : ∀ a0 a1 k, LeO (laws_markPartS.f k a0 a1) (laws_markPartS.f (k + 1) a0 a1) := fun a0 a1 k => laws_markPartS.mono_l k _ _ _
/-- Rows of other types lie apart. -/
theorem apart_types {α β : Type} {d1 : Kd α} {d2 : Kd β} {e1 e2 b : Nat} {o1 o2 : Nat → Prop} {W : World} {v1 v2 : Value} {xs : List α} {ys : List β} (h1 : d1.R e1 W b o1 v1 xs) (h2 : d2.R e2 W b o2 v2 ys) (E1 : d1.E = []) (E2 : d2.E = []) (hne : e1 ≠ e2) (k : Nat) (k1 : some k = v1.ownBlock) (k2 : some k = v2.ownBlock) : False := by
 obtain ⟨_, _, _, q1, m1, c1, x1⟩ := (Kd.R_bound h1).1 k k1.symm
 obtain ⟨_, _, _, q2, m2, c2, x2⟩ := (Kd.R_bound h2).1 k k2.symm
 rw [E1] at m1; rw [E2] at m2
 have y1 := List.mem_singleton.1 m1
 have y2 := List.mem_singleton.1 m2
 rw [x1] at x2; simp at x2
 exact hne (y1.symm.trans (x2.2.trans y2))
/-- What a call leaves, whose blocks are new. -/
theorem kept_none {w w' : World} (h : Below w.heap.size w w') : Kept w w' (fun _ => False) := ⟨h.size, fun k hk _ => h.block k hk⟩
set_option maxHeartbeats 4000000 in
set_option maxRecDepth 100000 in
theorem laws_markPartS.calls (k : Nat) (P0_ : Nat → Prop) (u9000_ : Value) (l0 : List S107) (a1 : Int) (r1 : Int) (r2 : List S107) (w0 w : World) (hB : Below w0.heap.size w0 w) (ho0 : Kd.S k107 107 w w0.heap.size P0_ u9000_ l0) (h : laws_markPartS.f k l0 a1 = some (r1, r2)) :
  Calls Try.prog 49 #[u9000_, .int .i64 a1] w fun e w' => e = .returned (.int .i64 r1) ∧ Kd.S k107 107 w' w0.heap.size P0_ u9000_ r2 ∧ Below w0.heap.size w0 w' ∧ Kept w w' (fun k_ => P0_ k_) := by
 have H0 := Aside0.mk (show laws_markPartS.l0 k l0 a1 0 = some (r1, r2) from h)
 have HS := Aside0.mk ho0
 have HB := Aside0.mk hB
 have HW := Aside0.mk hB.size
 have hn9 : l0.length ≤ 9223372036854775807 := (by obtain ⟨A, c, _, _, hC⟩ := Kd.S_reads ho0; exact hC.2.1)
 have HL := Aside0.mk hn9
 clear h hB hn9
 rcases Nat.eq_zero_or_pos l0.length with hz | hp
 ·obtain rfl := List.eq_nil_of_length_eq_zero hz
  obtain ⟨A, c, rfl⟩ := Kd.S_slice ho0
  clear ho0 hz
  have hr : r1 = a1 ∧ r2 = [] := by
   have h := H0.out
   cases k with
   | zero => simp [laws_markPartS.l0] at h
   | succ k => simp [laws_markPartS.l0] at h; exact ⟨h.1.symm, h.2⟩
  obtain ⟨rfl, rfl⟩ := hr
  go_enter Try.func49, Try.ntmps49
  go_wp2
  go_loopg [1, 5] 1 (fun kq v1 v5 w' => v1 = .int .i64 r1 ∧ v5 = .int .i64 0 ∧ w' = w)
  case atStart => exact ⟨rfl, rfl, rfl⟩
  case round =>
   obtain ⟨rfl, rfl, rfl⟩ := hrel
   go_wp2
   go_ret
   exact ⟨rfl, HS.out, HB.out, Kept.refl _ _⟩
 ·obtain ⟨g, cap, rfl, hg1, hg2, _⟩ := Kd.S_form ho0 hp
  have HG := Aside0.mk hg1
  have hPg : P0_ g := (Kd.S_R ho0).1 g rfl
  have HPG := Aside0.mk hPg
  clear ho0 hp hPg hg1 hg2
  go_enter Try.func49, Try.ntmps49
  go_wp2
  go_loopg [1, 5] k (fun kq v1 v5 w' => ∃ (x0 : List S107) (x1 x5 : Int), v1 = .int .i64 x1 ∧ v5 = .int .i64 x5 ∧ Aside0 (laws_markPartS.l0 kq x0 x1 x5 = some (r1, r2)) ∧ Aside0 (x0.length = l0.length) ∧ Aside0 (Kd.S k107 107 w' w0.heap.size P0_ (.slice (some ⟨g, 0, none⟩) l0.length cap) x0) ∧ Aside0 (Below w0.heap.size w0 w') ∧ Aside0 (Kept w w' P0_))
  case atStart => exact ⟨l0, a1, 0, rfl, rfl, ⟨H0.out⟩, ⟨rfl⟩, ⟨HS.out⟩, ⟨HB.out⟩, ⟨Kept.refl _ _⟩⟩
  case round =>
   clear HS HB H0
   obtain ⟨x0, x1, x5, rfl, rfl, H0, HX, HS, HB, HK⟩ := hrel
   cases gk with
   | zero => exact absurd H0.out (by simp [laws_markPartS.l0])
   | succ gk =>
   have H := H0.out
   simp only [laws_markPartS.l0] at H
   clear H0
   by_cases c1 : x5 < (l0.length : Int)
   rotate_left
   ·rw [if_neg (by rw [HX.out]; exact c1)] at H
    obtain ⟨rfl, rfl⟩ : x1 = r1 ∧ x0 = r2 := by simpa using H
    have d0 : decide (x5 < (l0.length : Int)) = false := decide_eq_false c1
    clear c1 H
    go_wp2
    go_ret
    exact ⟨rfl, HS.out, HB.out, HK.out⟩
   rw [if_pos (by rw [HX.out]; exact c1)] at H
   by_cases c2 : 0 ≤ x5
   rotate_left
   ·rw [if_neg c2] at H; exact absurd H (by simp)
   rw [if_pos c2] at H
   obtain ⟨t, ht, H⟩ := Option.bind_eq_some_iff.1 H
   obtain ⟨⟨b1, b2⟩, hm, H⟩ := Option.bind_eq_some_iff.1 H
   obtain ⟨⟨d1, d2⟩, hn, H⟩ := Option.bind_eq_some_iff.1 H
   dsimp only at H hn
   have HT := Aside0.mk ht
   have HM := Aside0.mk hm
   have HN := Aside0.mk hn
   have HH := Aside0.mk H
   have d0 : decide (x5 < (l0.length : Int)) = true := decide_eq_true c1
   have p1 : (0 ≤ x5) = True := eq_true c2
   have p2 : (x5 < (l0.length : Int)) = True := eq_true c1
   obtain ⟨oki, c, hcl, hMM, hcc, hfr, hoki, hHH⟩ := Kd.S_elem HS.out z107 x5 c2 c1
   obtain ⟨v1, v2, hce, hR1, hR2⟩ := k107_openM hMM
   have hx0 : wr.cell? ⟨g, x5.toNat * 3, none⟩ = some (.string (rd_T107 x0 x5).f0) := hcc 0 _ (by rw [hce]; rfl)
   have hx1 : wr.cell? ⟨g, x5.toNat * 3 + 1, none⟩ = some v1 := hcc 1 _ (by rw [hce]; rfl)
   have hx2 : wr.cell? ⟨g, x5.toNat * 3 + 2, none⟩ = some v2 := hcc 2 _ (by rw [hce]; rfl)
   have hf0 : wr.frozen? ⟨g, x5.toNat * 3, none⟩ = false := hfr 0
   have HDJ := Aside0.mk (apart_types hR1 hR2 rfl rfl (by decide))
   have HO1 := Aside0.mk (fun k (e : some k = v1.ownBlock) => hR1.1 k e.symm)
   have HO2 := Aside0.mk (fun k (e : some k = v2.ownBlock) => hR2.1 k e.symm)
   have HR1 := Aside0.mk (Kd.R_tight rfl hR1)
   have HR2 := Aside0.mk (Kd.R_tight rfl hR2)
   have HHH := Aside0.mk hHH
   have HOK := Aside0.mk hoki
   have HCE := Aside0.mk hce
   have HIN := Aside0.mk c2
   have HIL := Aside0.mk c1
   clear hR1 hR2 hHH hoki hce hcl hMM hcc hfr c1 c2 ht hm hn H
   go_wp2_with (first | (go_at_call 95; (refine (laws_markText.calls gk x1 t _ HT.out).mono ?_); rintro e w8 ⟨rfl, hb8⟩; have HK8 := Aside0.mk (kept_none hb8); have k0 := cell_kept hx0 HK8.out (fun h => h); have k1 := cell_kept hx1 HK8.out (fun h => h); have k2 := cell_kept hx2 HK8.out (fun h => h); have hge : w8.heap[g]? = wr.heap[g]? := HK8.out.2 g (World.block_lt_of_cell? wr _ hx0) (fun h => h); have f0 : w8.frozen? ⟨g, x5.toNat * 3, none⟩ = false := (by have := hf0; simpa [World.frozen?, hge] using this); have HB8 := Aside0.mk (below_step HB.out hb8); have HP1 := Aside0.mk (Kd.R_below HR1.out hb8); have HP2 := Aside0.mk (Kd.R_below HR2.out hb8); have HS8 := Aside0.mk (Kd.H_seg (Kd.H_kept HHH.out HK8.out (fun k _ _ h => h)) HIN.out HIL.out (seg := [.string t]) (j := 0) (by show 0 + 1 ≤ 3; omega) (by intro q hq; rcases List.mem_cons.1 hq with rfl | hq; rfl; cases hq)).1; clear hb8 hge hx0 hx1 hx2 hf0) | ((with_reducible refine gate_store (t := 9) (p := 17) rfl ?_); refine store_event (t := 9) (p := 17) (v := ?vo) (w1 := (w8.setCell ⟨g, x5.toNat * 3, none⟩ (.string t))) ?hg ?ho ?hn ?hr ?_; (case ho => rfl); (case hg => rfl); (case hn => rfl); (case hr => first | (go_simp; done) | (go_simp; rfl)); intro w9 hw; have hx1 : w9.cell? ⟨g, x5.toNat * 3 + 1, none⟩ = some v1 := (by rw [hw]; exact (World.cell?_setCell_other _ _ _ _ (by simp)).trans k1); have hx2 : w9.cell? ⟨g, x5.toNat * 3 + 2, none⟩ = some v2 := (by rw [hw]; exact (World.cell?_setCell_other _ _ _ _ (by simp)).trans k2); have HB9 := Aside0.mk ((by rw [hw]; exact below_set HB8.out HG.out) : Below w0.heap.size w0 w9); have HQ1 := Aside0.mk ((by rw [hw]; exact Kd.R_far HP1.out (fun k hk => (HOK.out k (HO1.out k hk)).2) _) : Kd.R _ _ w9 _ _ v1 (rd_T107 x0 x5).f1); have HQ2 := Aside0.mk ((by rw [hw]; exact Kd.R_far HP2.out (fun k hk => (HOK.out k (HO2.out k hk)).2) _) : Kd.R _ _ w9 _ _ v2 (rd_T107 x0 x5).f2); have HS9 := Aside0.mk ((by rw [hw]; exact HS8.out) : Kd.H k107 107 w9 w0.heap.size P0_ (.slice (some ⟨g, 0, none⟩) l0.length cap) x0 x5 oki (c.take 0 ++ [.string t] ++ c.drop (0 + 1))); have HK9 := Aside0.mk ((by rw [hw]; exact (HK.out.then_ HK8.out (fun k hk => hk.elim)).setCell (.inl HPG.out) _) : Kept w w9 P0_); clear hw k0 k1 k2 f0 HB8 HP1 HP2 HS8) | (go_at_call 96; (refine (laws_markInsS.calls gk _ v1 ((rd_T107 x0 x5).f1) (wrap64 (x1 + 1)) b1 b2 w0 _ HB9.out HQ1.out HM.out).mono ?_); rintro e w10 ⟨rfl, hr10, hb10, hk10⟩; have HB10 := Aside0.mk hb10; have HK10 := Aside0.mk hk10; have HR10 := Aside0.mk (Kd.R_tight rfl hr10); have k2 := cell_kept hx2 hk10 (fun h => (HOK.out _ (HO1.out _ h)).2 rfl); have HQ3 := Aside0.mk (Kd.R_kept HQ2.out hk10 (fun k e2 e1 => HDJ.out k e1 e2)); clear hr10 hb10 hk10 hx1 hx2) | (go_at_call 97; (refine (laws_markRefS.calls gk _ v2 ((rd_T107 x0 x5).f2) b1 d1 d2 w0 _ HB10.out HQ3.out HN.out).mono ?_); rintro e w11 ⟨rfl, hr11, hb11, hk11⟩; have HB11 := Aside0.mk hb11; have HK11 := Aside0.mk hk11; have HR11 := Aside0.mk (Kd.R_tight rfl hr11); have HR12 := Aside0.mk (Kd.R_kept HR10.out hk11 (fun k e1 e2 => HDJ.out k e1 e2)); clear hr11 hb11 hk11 k2))
   go_roundg gk
   case rel => exact ⟨x0.set (x5 : Int).toNat ⟨t, b2, d2⟩, d1, wrap64 (x5 + 1), rfl, rfl, ⟨HH.out⟩, ⟨by rw [List.length_set]; exact HX.out⟩, ⟨by
    have h10 := Kd.H_kept HS9.out HK10.out (fun k _ hn hs => hn (HO1.out k hs))
    have h11 := Kd.H_kept h10 HK11.out (fun k _ hn hs => hn (HO2.out k hs))
    have hc := HCE.out
    subst hc
    exact Kd.H_back h11 (x' := ⟨t, b2, d2⟩) (k107_mkM _ _ _ ⟨t, b2, d2⟩ (Kd.R_mono HR12.out (fun k hk => HO1.out k hk)) (Kd.R_mono HR11.out (fun k hk => HO2.out k hk))) (fun _ hk => hk)⟩, ⟨HB11.out⟩, ⟨(HK9.out.then_ HK10.out (fun k hk => .inl (HOK.out k (HO1.out k hk)).1)).then_ HK11.out (fun k hk => .inl (HOK.out k (HO2.out k hk)).1)⟩⟩
   all_goals omega

/-! ### spec_l1In: function 62 -/
def spec_l1In.f (a0 : Int) (a1 : Int) (a2 : Int) : Option (Bool) := if a0 ≥ a1 then (some (decide (a0 ≤ a2))) else (some false)
set_option maxHeartbeats 8000000 in
set_option maxRecDepth 100000 in
theorem spec_l1In.calls (a0 : Int) (a1 : Int) (a2 : Int) (r : Bool) (w : World) (h : spec_l1In.f a0 a1 a2 = some r) :
  Calls Try.prog 62 #[.int .i64 a0, .int .i64 a1, .int .i64 a2] w fun e w' => e = .returned (.bool r) ∧ Drawn0 w w' := by
 have H : (if a0 ≥ a1 then (some (decide (a0 ≤ a2))) else (some false)) = some r := h
 clear h
 by_cases c4 : a0 ≥ a1
 ·rw [if_pos c4] at H
  have c4b0 : decide (a1 ≤ a0) = true := decide_eq_true c4
  clear c4
  obtain rfl := Option.some.inj H
  go_enter Try.func62, Try.ntmps62
  go_wp2
  go_ret
  exact ⟨by first | rfl | (simp; done) | (simp [*]; done), by repeat (first | exact Drawn0.refl _ | apply Drawn0.step)⟩
 rw [if_neg c4] at H
 have c4b0 : decide (a1 ≤ a0) = false := decide_eq_false c4
 clear c4
 obtain rfl := Option.some.inj H
 go_enter Try.func62, Try.ntmps62
 go_wp2
 go_ret
 exact ⟨by first | rfl | (simp; done) | (simp [*]; done), by repeat (first | exact Drawn0.refl _ | apply Drawn0.step)⟩

/-! ### spec_l27Ref: function 98 -/
def spec_l27Ref.l0 : Nat → Int → Int → ByteArray → List (S115) → List (S118) → Option (Int)
 | 0, _, _, _, _, _ => none
 | k + 1, x1, x5, x186000, x186001, x186002 => if x5 < (x186002.length : Int) then (if 0 ≤ x5 then (if ((rd_T118 x186002 x5).f0) = x1 then (some x5) else (spec_l27Ref.l0 k x1 (wrap64 (x5 + 1)) x186000 x186001 x186002)) else (none)) else (some (-1))
def spec_l27Ref.f (k : Nat) (a0_0 : ByteArray) (l0_1 : List (S115)) (l0_2 : List (S118)) (a1 : Int) : Option (Int) := spec_l27Ref.l0 k a1 0 a0_0 l0_1 l0_2
theorem spec_l27Ref.mono_l : ∀ k, (∀ y0 y1 y2 y3 y4, LeO (spec_l27Ref.l0 k y0 y1 y2 y3 y4) (spec_l27Ref.l0 (k + 1) y0 y1 y2 y3 y4))
 | 0 => fun _ _ _ _ _ r h => by simp [spec_l27Ref.l0] at h
 | k + 1 => by
  have ih0 := spec_l27Ref.mono_l k
  ·intro y0 y1 y2 y3 y4
   unfold spec_l27Ref.l0
   repeat' first
   | (with_reducible exact ih0 _ _ _ _ _)
   | (with_reducible exact LeO.refl _)
   | (with_reducible exact LeO.none _)
   | (with_reducible refine LeO.ite ?_ ?_)
   | (with_reducible refine LeO.bind ?_ (fun _ => ?_))
   | exact ih0 _ _ _ _ _
   | exact LeO.none _
   | refine LeO.ite ?_ ?_
   | refine LeO.bind ?_ (fun _ => ?_)
theorem spec_l27Ref.mono : ∀ a0 a1 a2 a3 k, LeO (spec_l27Ref.f k a0 a1 a2 a3) (spec_l27Ref.f (k + 1) a0 a1 a2 a3) := by
 intro a0 a1 a2 a3 k
 have ih0 := spec_l27Ref.mono_l k
 unfold spec_l27Ref.f
 repeat' first
   | (with_reducible exact ih0 _ _ _ _ _)
   | (with_reducible exact LeO.refl _)
   | (with_reducible exact LeO.none _)
   | (with_reducible refine LeO.ite ?_ ?_)
   | (with_reducible refine LeO.bind ?_ (fun _ => ?_))
   | exact ih0 _ _ _ _ _
   | exact LeO.none _
   | refine LeO.ite ?_ ?_
   | refine LeO.bind ?_ (fun _ => ?_)
set_option maxHeartbeats 8000000 in
set_option maxRecDepth 100000 in
theorem spec_l27Ref.calls (k : Nat) (a0_0 : ByteArray) (A0_1 : Option Addr) (c0_1 : Nat) (l0_1 : List (S115)) (A0_2 : Option Addr) (c0_2 : Nat) (l0_2 : List (S118)) (a1 : Int) (r : Int) (w : World) (hr0_1 : Kd.C k115 w A0_1 l0_1.length l0_1) (hc0_1 : l0_1.length ≤ c0_1) (hr0_2 : Kd.C k118 w A0_2 l0_2.length l0_2) (hc0_2 : l0_2.length ≤ c0_2) (h : spec_l27Ref.f k a0_0 l0_1 l0_2 a1 = some r) :
  Calls Try.prog 98 #[.agg #[.string a0_0, .slice A0_1 l0_1.length c0_1, .slice A0_2 l0_2.length c0_2], .int .i64 a1] w fun e w' => e = .returned (.int .i64 r) ∧ Below w.heap.size w w' := by
 have hu107 := Try.underlying107
 have HR0_1 := Aside0.mk hr0_1
 have HC0_1 := Aside0.mk hc0_1
 clear hr0_1 hc0_1
 have HR0_2 := Aside0.mk hr0_2
 have HC0_2 := Aside0.mk hc0_2
 clear hr0_2 hc0_2
 have HB := Aside0.mk (Below.refl w.heap.size w)
 have H : (spec_l27Ref.l0 k a1 0 a0_0 l0_1 l0_2) = some r := h
 clear h
 have H' := Aside0.mk H
 clear H
 go_enter Try.func98, Try.ntmps98
 go_wp2_with (first | ((with_reducible refine gate_dst (N := 2) rfl ?_); refine box_event ?hg (N := 2) ?hd (cs := #[.string a0_0, .slice A0_1 l0_1.length c0_1, .slice A0_2 l0_2.length c0_2]) (t := 107) ?hr ?_; (case hd => rfl); (case hg => rfl); (case hr => first | (go_simp; done) | (go_simp; rfl)); intro gb185 hg w3 hbox hb; have n0_ := Aside0.mk (below_step (zB6_1) hb); have n1_ := Aside0.mk (hbox); have n2_ := Aside0.mk ((by rw [hg]; exact (below_size (zB6_1)) : w.heap.size ≤ gb185)); have n3_ := Aside0.mk ((by rw [hg]; exact (below_size (zB6_1)) : w.heap.size ≤ gb185)); clear HB; have HB := n0_; have BK185 := n1_; have GW185 := n2_; have GE185 := n3_; clear n0_ n1_ n2_ n3_; clear hb hbox hg))
 go_loopg [5] k (fun kq v5 w' => ∃ (x5_1 : Int), v5 = .int .i64 x5_1 ∧ Aside0 (spec_l27Ref.l0 kq a1 x5_1 a0_0 l0_1 l0_2 = some r) ∧ Aside0 (kq ≤ k) ∧ Aside0 (w'.heap[gb185]? = some (.cells #[.string a0_0, (.slice A0_1 l0_1.length c0_1), (.slice A0_2 l0_2.length c0_2)] 107 (0, 0))) ∧ Aside0 (Below w.heap.size w w'))
 case atStart => exact ⟨(0), (by first | rfl | (simp; done) | (simp [*]; done)), H', ⟨Nat.le_refl _⟩, ⟨zK6 BK185.out⟩, ⟨zB6_2⟩⟩
 case round =>
  clear H'
  try clear p2
  obtain ⟨x5_1, rfl, HA, HK1, BK185, HB⟩ := hrel
  cases gk with
  | zero => exact absurd HA.out (by simp [spec_l27Ref.l0])
  | succ k1 =>
   have H := HA.out
   clear HA
   simp only [spec_l27Ref.l0] at H
   by_cases c4 : x5_1 < (l0_2.length : Int)
   rotate_left
   ·rw [if_neg c4] at H
    have c4b0 : decide (x5_1 < (l0_2.length : Int)) = false := decide_eq_false c4
    clear c4
    obtain rfl := Option.some.inj H
    obtain ⟨hcz9_0, hcz9_1, hcz9_2, hfz9_0, hfz9_1, hfz9_2⟩ := zc6_3 (w := wr) BK185.out
    go_wp2
    go_ret
    exact ⟨zE6, zB6_2⟩
   rw [if_pos c4] at H
   have c4b0 : decide (x5_1 < (l0_2.length : Int)) = true := decide_eq_true c4
   clear c4
   by_cases c5 : 0 ≤ x5_1
   rotate_left
   ·rw [if_neg c5] at H
    exact absurd H (by simp)
   rw [if_pos c5] at H
   have c5b0 : decide (0 ≤ x5_1) = true := decide_eq_true c5
   clear c5
   by_cases c6 : ((rd_T118 l0_2 x5_1).f0) = a1
   ·rw [if_pos c6] at H
    have c6b0 : (((rd_T118 l0_2 x5_1).f0) == a1) = true := beq_iff_eq.mpr c6
    have c6b1 : (((rd_T118 l0_2 x5_1).f0) != a1) = false := bne_eq_false_iff_eq.mpr c6
    clear c6
    obtain rfl := Option.some.inj H
    obtain ⟨hcz7_0, hcz7_1, hcz7_2, hfz7_0, hfz7_1, hfz7_2⟩ := zc6_3 (w := wr) BK185.out
    have p186 : 0 ≤ (x5_1 : Int) := zA6
    have q186 : x5_1 < (l0_2.length : Int) := zA6
    obtain ⟨ad186, e186, hx186_0, hx186_1⟩ := at_T118 HR0_2.out x5_1 p186 q186
    cases e186
    replace hx186_0 := (HB.out.cell (World.block_lt_of_cell? w _ hx186_0)).trans hx186_0
    replace hx186_1 := (HB.out.cell (World.block_lt_of_cell? w _ hx186_1)).trans hx186_1
    replace p186 := eq_true p186
    replace q186 := eq_true q186
    go_wp2
    go_ret
    exact ⟨zE6, zB6_2⟩
   rw [if_neg c6] at H
   have c6b0 : (((rd_T118 l0_2 x5_1).f0) == a1) = false := beq_eq_false_iff_ne.mpr c6
   have c6b1 : (((rd_T118 l0_2 x5_1).f0) != a1) = true := bne_iff_ne.mpr c6
   have H' := Aside0.mk H
   clear H
   obtain ⟨hcz8_0, hcz8_1, hcz8_2, hfz8_0, hfz8_1, hfz8_2⟩ := zc6_3 (w := wr) BK185.out
   have p186 : 0 ≤ (x5_1 : Int) := zA6
   have q186 : x5_1 < (l0_2.length : Int) := zA6
   obtain ⟨ad186, e186, hx186_0, hx186_1⟩ := at_T118 HR0_2.out x5_1 p186 q186
   cases e186
   replace hx186_0 := (HB.out.cell (World.block_lt_of_cell? w _ hx186_0)).trans hx186_0
   replace hx186_1 := (HB.out.cell (World.block_lt_of_cell? w _ hx186_1)).trans hx186_1
   replace p186 := eq_true p186
   replace q186 := eq_true q186
   go_wp2
   go_roundg k1
   case measure => have := HK1.out; omega
   case rel => exact ⟨(wrap64 (x5_1 + 1)), (by first | rfl | (simp; done) | (simp [*]; done)), H', ⟨by have := HK1.out; omega⟩, ⟨zK6 BK185.out⟩, ⟨zB6_2⟩⟩

/-! ### spec_l8Has: function 148 -/
def spec_l8Has.f (a0 : Int) : Option (Int) := (spec_l1In.f a0 1 10).bind fun t187 => (if t187 = true then ((some (([0, 9, 7, 11, 11, 14, 15, 10, 8, 0, 7] : List Int) : List Int)).bind fun y188 => (if 0 ≤ a0 then (if a0 < (y188.length : Int) then (some (rd y188 a0)) else (none)) else (none))) else (some 0))
set_option maxHeartbeats 8000000 in
set_option maxRecDepth 100000 in
theorem spec_l8Has.calls (a0 : Int) (r : Int) (w : World) (h : spec_l8Has.f a0 = some r) :
  Calls Try.prog 148 #[.int .i64 a0] w fun e w' => e = .returned (.int .i64 r) ∧ Below w.heap.size w w' := by
 have HB := Aside0.mk (Below.refl w.heap.size w)
 have H : ((spec_l1In.f a0 1 10).bind fun t187 => (if t187 = true then ((some (([0, 9, 7, 11, 11, 14, 15, 10, 8, 0, 7] : List Int) : List Int)).bind fun y188 => (if 0 ≤ a0 then (if a0 < (y188.length : Int) then (some (rd y188 a0)) else (none)) else (none))) else (some 0))) = some r := h
 clear h
 replace H := Option.bind_eq_some_iff.mp H
 obtain ⟨t187, A20, H⟩ := H
 replace H : (if t187 = true then ((some (([0, 9, 7, 11, 11, 14, 15, 10, 8, 0, 7] : List Int) : List Int)).bind fun y188 => (if 0 ≤ a0 then (if a0 < (y188.length : Int) then (some (rd y188 a0)) else (none)) else (none))) else (some 0)) = some r := H
 have A2 := Aside0.mk A20
 clear A20
 by_cases c3 : t187 = true
 rotate_left
 ·replace c3 := Bool.eq_false_iff.mpr c3
  subst c3
  have H1 : (some 0) = some r := by rw [if_neg (show ¬ (false = true) by decide)] at H; exact H
  clear H
  have H := H1
  clear H1
  obtain rfl := Option.some.inj H
  go_enter Try.func148, Try.ntmps148
  go_wp2_with (first | ((with_reducible refine gate_callee (f := 62) rfl ?_); refine goesL_ (some 4) rfl rfl Try.func62 (by kernel_rfl) rfl #[.int .i64 a0, .int .i64 1, .int .i64 10] rfl zT6 ?_; (with_reducible refine (spec_l1In.calls a0 1 10 false _ A2.out).mono ?_); rintro e w' ⟨rfl, ⟨nd, rfl⟩⟩; refine ⟨_, rfl, ?_⟩))
  go_ret
  exact ⟨zE6, zB6_1⟩
 subst c3
 have H1 : ((some (([0, 9, 7, 11, 11, 14, 15, 10, 8, 0, 7] : List Int) : List Int)).bind fun y188 => (if 0 ≤ a0 then (if a0 < (y188.length : Int) then (some (rd y188 a0)) else (none)) else (none))) = some r := by rw [if_pos rfl] at H; exact H
 clear H
 have H := H1
 clear H1
 obtain ⟨y188, hy188⟩ : ∃ y_ : List Int, y_ = (([0, 9, 7, 11, 11, 14, 15, 10, 8, 0, 7] : List Int)) := ⟨_, rfl⟩
 replace H : (if 0 ≤ a0 then (if a0 < (y188.length : Int) then (some (rd y188 a0)) else (none)) else (none)) = some r := by first | (rw [hy188]; with_reducible exact H) | (have H2_ := (Option.bind_some _ _).symm.trans H; rw [hy188]; with_reducible exact H2_) | (have H2_ := (Option.bind_some _ _).symm.trans H; with_reducible exact H2_) | with_reducible exact H | (rw [hy188]; exact H) | exact H
 have Ny188 := Aside0.mk hy188
 clear hy188
 by_cases c4 : 0 ≤ a0
 rotate_left
 ·rw [if_neg c4] at H
  exact absurd H (by simp)
 rw [if_pos c4] at H
 have c4b0 : decide (0 ≤ a0) = true := decide_eq_true c4
 clear c4
 by_cases c5 : a0 < (y188.length : Int)
 rotate_left
 ·rw [if_neg c5] at H
  exact absurd H (by simp)
 rw [if_pos c5] at H
 have c5b0 : decide (a0 < (y188.length : Int)) = true := decide_eq_true c5
 clear c5
 obtain rfl := Option.some.inj H
 go_enter Try.func148, Try.ntmps148
 go_wp2_with (first | ((with_reducible refine gate_callee (f := 62) rfl ?_); refine goesL_ (some 4) rfl rfl Try.func62 (by kernel_rfl) rfl #[.int .i64 a0, .int .i64 1, .int .i64 10] rfl zT6 ?_; (with_reducible refine (spec_l1In.calls a0 1 10 true _ A2.out).mono ?_); rintro e w' ⟨rfl, ⟨nd, rfl⟩⟩; refine ⟨_, rfl, ?_⟩) | ((with_reducible refine gate_dst (N := 6) rfl ?_); refine Kd.R_lit (Kd.int .i64) _ 3 ?hg (N := 6) ?hd (xs := ([0, 9, 7, 11, 11, 14, 15, 10, 8, 0, 7] : List Int)) (inner := [.int .i64 0, .int .i64 9, .int .i64 7, .int .i64 11, .int .i64 11, .int .i64 14, .int .i64 15, .int .i64 10, .int .i64 8, .int .i64 0, .int .i64 7]) (ok := fun _ => True) (okp := fun _ => True) ?hr ?hp (fun _ hk => hk) trivial (Below.refl _ _) (Nat.le_refl _) (by simp) ?_; (case hd => rfl); (case hg => rfl); (case hr => first | (go_simp; done) | (go_simp; rfl)); (case hp => exact (Reps.one (show Kd.M (Kd.int .i64) _ _ _ 0 [.int .i64 0] from rfl) (Reps.one (show Kd.M (Kd.int .i64) _ _ _ 9 [.int .i64 9] from rfl) (Reps.one (show Kd.M (Kd.int .i64) _ _ _ 7 [.int .i64 7] from rfl) (Reps.one (show Kd.M (Kd.int .i64) _ _ _ 11 [.int .i64 11] from rfl) (Reps.one (show Kd.M (Kd.int .i64) _ _ _ 11 [.int .i64 11] from rfl) (Reps.one (show Kd.M (Kd.int .i64) _ _ _ 14 [.int .i64 14] from rfl) (Reps.one (show Kd.M (Kd.int .i64) _ _ _ 15 [.int .i64 15] from rfl) (Reps.one (show Kd.M (Kd.int .i64) _ _ _ 10 [.int .i64 10] from rfl) (Reps.one (show Kd.M (Kd.int .i64) _ _ _ 8 [.int .i64 8] from rfl) (Reps.one (show Kd.M (Kd.int .i64) _ _ _ 0 [.int .i64 0] from rfl) (Reps.one (show Kd.M (Kd.int .i64) _ _ _ 7 [.int .i64 7] from rfl) (Reps.none _ _))))))))))))); intro v189 w6 ho7 hb hg_ hnew_; clear hg_ hnew_; (first | rw [← Ny188.out] at ho7 | (simp only [Int.reduceToNat] at ho7; rw [← Ny188.out] at ho7)); have n0_ := Aside0.mk (Kd.R_lower ho7 (below_size (zB6_1))); have n1_ := Aside0.mk (below_step (zB6_1) hb); clear HB; have HO190 := n0_; have HB := n1_; clear n0_ n1_; clear hb ho7; obtain ⟨Ao8, co8, eo8⟩ := Kd.R_slice HO190.out; subst eo8; have p191 : 0 ≤ (a0 : Int) := zA6; have q191 : a0 < (y188.length : Int) := zA6; obtain ⟨ad191, e191, hx191_0⟩ := Kd.at_int (Kd.R_reads' HO190.out).2.2 a0 p191 q191; cases e191; replace p191 := eq_true p191; replace q191 := eq_true q191))
 go_ret
 exact ⟨zE6, zB6_1⟩

/-! ### spec_l8Field: function 149 -/
def spec_l8Field.f (a0 : Int) (a1 : Int) (a2 : Bool) : Option (Bool) := (spec_l1In.f a0 0 a1).bind fun t192 => (if t192 = true then (if a2 = true then (some true) else (some (a0 == 0))) else (some false))
set_option maxHeartbeats 8000000 in
set_option maxRecDepth 100000 in
theorem spec_l8Field.calls (a0 : Int) (a1 : Int) (a2 : Bool) (r : Bool) (w : World) (h : spec_l8Field.f a0 a1 a2 = some r) :
  Calls Try.prog 149 #[.int .i64 a0, .int .i64 a1, .bool a2] w fun e w' => e = .returned (.bool r) ∧ Drawn0 w w' := by
 have H : ((spec_l1In.f a0 0 a1).bind fun t192 => (if t192 = true then (if a2 = true then (some true) else (some (a0 == 0))) else (some false))) = some r := h
 clear h
 replace H := Option.bind_eq_some_iff.mp H
 obtain ⟨t192, A40, H⟩ := H
 replace H : (if t192 = true then (if a2 = true then (some true) else (some (a0 == 0))) else (some false)) = some r := H
 have A4 := Aside0.mk A40
 clear A40
 by_cases c5 : t192 = true
 rotate_left
 ·replace c5 := Bool.eq_false_iff.mpr c5
  subst c5
  have H1 : (some false) = some r := by rw [if_neg (show ¬ (false = true) by decide)] at H; exact H
  clear H
  have H := H1
  clear H1
  obtain rfl := Option.some.inj H
  go_enter Try.func149, Try.ntmps149
  go_wp2_with (first | ((with_reducible refine gate_callee (f := 62) rfl ?_); refine goesL_ (some 9) rfl rfl Try.func62 (by kernel_rfl) rfl #[.int .i64 a0, .int .i64 0, .int .i64 a1] rfl zT6 ?_; (with_reducible refine (spec_l1In.calls a0 0 a1 false _ A4.out).mono ?_); rintro e w' ⟨rfl, ⟨nd, rfl⟩⟩; refine ⟨_, rfl, ?_⟩))
  go_ret
  exact ⟨by first | rfl | (simp; done) | (simp [*]; done), by repeat (first | exact Drawn0.refl _ | apply Drawn0.step)⟩
 subst c5
 have H1 : (if a2 = true then (some true) else (some (a0 == 0))) = some r := by rw [if_pos rfl] at H; exact H
 clear H
 have H := H1
 clear H1
 by_cases c6 : a2 = true
 ·subst c6
  have H1 : (some true) = some r := by rw [if_pos rfl] at H; exact H
  clear H
  have H := H1
  clear H1
  obtain rfl := Option.some.inj H
  go_enter Try.func149, Try.ntmps149
  go_wp2_with (first | ((with_reducible refine gate_callee (f := 62) rfl ?_); refine goesL_ (some 9) rfl rfl Try.func62 (by kernel_rfl) rfl #[.int .i64 a0, .int .i64 0, .int .i64 a1] rfl zT6 ?_; (with_reducible refine (spec_l1In.calls a0 0 a1 true _ A4.out).mono ?_); rintro e w' ⟨rfl, ⟨nd, rfl⟩⟩; refine ⟨_, rfl, ?_⟩))
  go_ret
  exact ⟨by first | rfl | (simp; done) | (simp [*]; done), by repeat (first | exact Drawn0.refl _ | apply Drawn0.step)⟩
 replace c6 := Bool.eq_false_iff.mpr c6
 subst c6
 have H1 : (some (a0 == 0)) = some r := by rw [if_neg (show ¬ (false = true) by decide)] at H; exact H
 clear H
 have H := H1
 clear H1
 obtain rfl := Option.some.inj H
 go_enter Try.func149, Try.ntmps149
 go_wp2_with (first | ((with_reducible refine gate_callee (f := 62) rfl ?_); refine goesL_ (some 9) rfl rfl Try.func62 (by kernel_rfl) rfl #[.int .i64 a0, .int .i64 0, .int .i64 a1] rfl zT6 ?_; (with_reducible refine (spec_l1In.calls a0 0 a1 true _ A4.out).mono ?_); rintro e w' ⟨rfl, ⟨nd, rfl⟩⟩; refine ⟨_, rfl, ?_⟩))
 go_ret
 exact ⟨by first | rfl | (simp; done) | (simp [*]; done), by repeat (first | exact Drawn0.refl _ | apply Drawn0.step)⟩

/-! ### spec_InsOk: function 126 -/
def spec_InsOk.f (a0_0 : Int) (a0_1 : Int) (a0_2 : Int) (a0_3 : Int) (a0_4 : Int) : Option (Bool) := (spec_l8Has.f a0_0).bind fun t194 => ((spec_l1In.f a0_0 1 10).bind fun t195 => (if t195 = true then ((spec_l8Field.f a0_1 3 ((Go.bits .and .i64 t194 1) != 0)).bind fun t196 => (if t196 = true then ((spec_l8Field.f a0_2 3 ((Go.bits .and .i64 t194 2) != 0)).bind fun t197 => (if t197 = true then ((spec_l8Field.f a0_3 3 ((Go.bits .and .i64 t194 4) != 0)).bind fun t198 => (if t198 = true then ((spec_l8Field.f a0_4 63 ((Go.bits .and .i64 t194 8) != 0)).bind fun t199 => (some t199)) else (some false))) else (some false))) else (some false))) else (some false)))
set_option maxHeartbeats 8000000 in
set_option maxRecDepth 100000 in
theorem spec_InsOk.calls (a0_0 : Int) (a0_1 : Int) (a0_2 : Int) (a0_3 : Int) (a0_4 : Int) (r : Bool) (w : World) (h : spec_InsOk.f a0_0 a0_1 a0_2 a0_3 a0_4 = some r) :
  Calls Try.prog 126 #[.agg #[.int .i64 a0_0, .int .i64 a0_1, .int .i64 a0_2, .int .i64 a0_3, .int .i64 a0_4]] w fun e w' => e = .returned (.bool r) ∧ Below w.heap.size w w' := by
 have hu115 := Try.underlying115
 have HB := Aside0.mk (Below.refl w.heap.size w)
 have H : ((spec_l8Has.f a0_0).bind fun t194 => ((spec_l1In.f a0_0 1 10).bind fun t195 => (if t195 = true then ((spec_l8Field.f a0_1 3 ((Go.bits .and .i64 t194 1) != 0)).bind fun t196 => (if t196 = true then ((spec_l8Field.f a0_2 3 ((Go.bits .and .i64 t194 2) != 0)).bind fun t197 => (if t197 = true then ((spec_l8Field.f a0_3 3 ((Go.bits .and .i64 t194 4) != 0)).bind fun t198 => (if t198 = true then ((spec_l8Field.f a0_4 63 ((Go.bits .and .i64 t194 8) != 0)).bind fun t199 => (some t199)) else (some false))) else (some false))) else (some false))) else (some false)))) = some r := h
 clear h
 replace H := Option.bind_eq_some_iff.mp H
 obtain ⟨t194, A20, H⟩ := H
 replace H : ((spec_l1In.f a0_0 1 10).bind fun t195 => (if t195 = true then ((spec_l8Field.f a0_1 3 ((Go.bits .and .i64 t194 1) != 0)).bind fun t196 => (if t196 = true then ((spec_l8Field.f a0_2 3 ((Go.bits .and .i64 t194 2) != 0)).bind fun t197 => (if t197 = true then ((spec_l8Field.f a0_3 3 ((Go.bits .and .i64 t194 4) != 0)).bind fun t198 => (if t198 = true then ((spec_l8Field.f a0_4 63 ((Go.bits .and .i64 t194 8) != 0)).bind fun t199 => (some t199)) else (some false))) else (some false))) else (some false))) else (some false))) = some r := H
 have A2 := Aside0.mk A20
 clear A20
 replace H := Option.bind_eq_some_iff.mp H
 obtain ⟨t195, A30, H⟩ := H
 replace H : (if t195 = true then ((spec_l8Field.f a0_1 3 ((Go.bits .and .i64 t194 1) != 0)).bind fun t196 => (if t196 = true then ((spec_l8Field.f a0_2 3 ((Go.bits .and .i64 t194 2) != 0)).bind fun t197 => (if t197 = true then ((spec_l8Field.f a0_3 3 ((Go.bits .and .i64 t194 4) != 0)).bind fun t198 => (if t198 = true then ((spec_l8Field.f a0_4 63 ((Go.bits .and .i64 t194 8) != 0)).bind fun t199 => (some t199)) else (some false))) else (some false))) else (some false))) else (some false)) = some r := H
 have A3 := Aside0.mk A30
 clear A30
 by_cases c4 : t195 = true
 rotate_left
 ·replace c4 := Bool.eq_false_iff.mpr c4
  subst c4
  have H1 : (some false) = some r := by rw [if_neg (show ¬ (false = true) by decide)] at H; exact H
  clear H
  have H := H1
  clear H1
  obtain rfl := Option.some.inj H
  go_enter Try.func126, Try.ntmps126
  go_wp2_with (first | ((with_reducible refine gate_dst (N := 1) rfl ?_); refine box_event ?hg (N := 1) ?hd (cs := #[.int .i64 a0_0, .int .i64 a0_1, .int .i64 a0_2, .int .i64 a0_3, .int .i64 a0_4]) (t := 115) ?hr ?_; (case hd => rfl); (case hg => rfl); (case hr => first | (go_simp; done) | (go_simp; rfl)); intro gb193 hg w28 hbox hb; have n0_ := Aside0.mk (below_step (zB6_1) hb); have n1_ := Aside0.mk (hbox); have n2_ := Aside0.mk ((by rw [hg]; exact (below_size (zB6_1)) : w.heap.size ≤ gb193)); have n3_ := Aside0.mk ((by rw [hg]; exact (below_size (zB6_1)) : w.heap.size ≤ gb193)); clear HB; have HB := n0_; have BK193 := n1_; have GW193 := n2_; have GE193 := n3_; clear n0_ n1_ n2_ n3_; clear hb hbox hg; obtain ⟨hcz29_0, hcz29_1, hcz29_2, hcz29_3, hcz29_4, hfz29_0, hfz29_1, hfz29_2, hfz29_3, hfz29_4⟩ := zc6_5 (w := w28) BK193.out) | ((with_reducible refine gate_callee (f := 148) rfl ?_); refine goesL_ (some 6) rfl rfl Try.func148 (by kernel_rfl) rfl #[.int .i64 a0_0] rfl zT6 ?_; (with_reducible refine (spec_l8Has.calls a0_0 t194 _ A2.out).mono ?_); rintro e w30 ⟨rfl, hb⟩; refine ⟨_, rfl, ?_⟩; have n0_ := Aside0.mk (zb6 BK193.out hb); have n1_ := Aside0.mk (below_step (zB6_3) hb); clear BK193; clear HB; have BK193 := n0_; have HB := n1_; clear n0_ n1_; (try clear hb); (try clear hb2); (try clear hk); (try clear hi); obtain ⟨hcz31_0, hcz31_1, hcz31_2, hcz31_3, hcz31_4, hfz31_0, hfz31_1, hfz31_2, hfz31_3, hfz31_4⟩ := zc6_5 (w := w30) BK193.out) | ((with_reducible refine gate_callee (f := 62) rfl ?_); refine goesL_ (some 9) rfl rfl Try.func62 (by kernel_rfl) rfl #[.int .i64 a0_0, .int .i64 1, .int .i64 10] rfl zT6 ?_; (with_reducible refine (spec_l1In.calls a0_0 1 10 false _ A3.out).mono ?_); rintro e w' ⟨rfl, ⟨nd, rfl⟩⟩; refine ⟨_, rfl, ?_⟩))
  go_ret
  exact ⟨zE6, zB6_3⟩
 subst c4
 have H1 : ((spec_l8Field.f a0_1 3 ((Go.bits .and .i64 t194 1) != 0)).bind fun t196 => (if t196 = true then ((spec_l8Field.f a0_2 3 ((Go.bits .and .i64 t194 2) != 0)).bind fun t197 => (if t197 = true then ((spec_l8Field.f a0_3 3 ((Go.bits .and .i64 t194 4) != 0)).bind fun t198 => (if t198 = true then ((spec_l8Field.f a0_4 63 ((Go.bits .and .i64 t194 8) != 0)).bind fun t199 => (some t199)) else (some false))) else (some false))) else (some false))) = some r := by rw [if_pos rfl] at H; exact H
 clear H
 have H := H1
 clear H1
 replace H := Option.bind_eq_some_iff.mp H
 obtain ⟨t196, A50, H⟩ := H
 replace H : (if t196 = true then ((spec_l8Field.f a0_2 3 ((Go.bits .and .i64 t194 2) != 0)).bind fun t197 => (if t197 = true then ((spec_l8Field.f a0_3 3 ((Go.bits .and .i64 t194 4) != 0)).bind fun t198 => (if t198 = true then ((spec_l8Field.f a0_4 63 ((Go.bits .and .i64 t194 8) != 0)).bind fun t199 => (some t199)) else (some false))) else (some false))) else (some false)) = some r := H
 have A5 := Aside0.mk A50
 clear A50
 by_cases c6 : t196 = true
 rotate_left
 ·replace c6 := Bool.eq_false_iff.mpr c6
  subst c6
  have H1 : (some false) = some r := by rw [if_neg (show ¬ (false = true) by decide)] at H; exact H
  clear H
  have H := H1
  clear H1
  obtain rfl := Option.some.inj H
  go_enter Try.func126, Try.ntmps126
  go_wp2_with (first | ((with_reducible refine gate_dst (N := 1) rfl ?_); refine box_event ?hg (N := 1) ?hd (cs := #[.int .i64 a0_0, .int .i64 a0_1, .int .i64 a0_2, .int .i64 a0_3, .int .i64 a0_4]) (t := 115) ?hr ?_; (case hd => rfl); (case hg => rfl); (case hr => first | (go_simp; done) | (go_simp; rfl)); intro gb193 hg w24 hbox hb; have n0_ := Aside0.mk (below_step (zB6_1) hb); have n1_ := Aside0.mk (hbox); have n2_ := Aside0.mk ((by rw [hg]; exact (below_size (zB6_1)) : w.heap.size ≤ gb193)); have n3_ := Aside0.mk ((by rw [hg]; exact (below_size (zB6_1)) : w.heap.size ≤ gb193)); clear HB; have HB := n0_; have BK193 := n1_; have GW193 := n2_; have GE193 := n3_; clear n0_ n1_ n2_ n3_; clear hb hbox hg; obtain ⟨hcz25_0, hcz25_1, hcz25_2, hcz25_3, hcz25_4, hfz25_0, hfz25_1, hfz25_2, hfz25_3, hfz25_4⟩ := zc6_5 (w := w24) BK193.out) | ((with_reducible refine gate_callee (f := 148) rfl ?_); refine goesL_ (some 6) rfl rfl Try.func148 (by kernel_rfl) rfl #[.int .i64 a0_0] rfl zT6 ?_; (with_reducible refine (spec_l8Has.calls a0_0 t194 _ A2.out).mono ?_); rintro e w26 ⟨rfl, hb⟩; refine ⟨_, rfl, ?_⟩; have n0_ := Aside0.mk (zb6 BK193.out hb); have n1_ := Aside0.mk (below_step (zB6_3) hb); clear BK193; clear HB; have BK193 := n0_; have HB := n1_; clear n0_ n1_; (try clear hb); (try clear hb2); (try clear hk); (try clear hi); obtain ⟨hcz27_0, hcz27_1, hcz27_2, hcz27_3, hcz27_4, hfz27_0, hfz27_1, hfz27_2, hfz27_3, hfz27_4⟩ := zc6_5 (w := w26) BK193.out) | ((with_reducible refine gate_callee (f := 62) rfl ?_); refine goesL_ (some 9) rfl rfl Try.func62 (by kernel_rfl) rfl #[.int .i64 a0_0, .int .i64 1, .int .i64 10] rfl zT6 ?_; (with_reducible refine (spec_l1In.calls a0_0 1 10 true _ A3.out).mono ?_); rintro e w' ⟨rfl, ⟨nd, rfl⟩⟩; refine ⟨_, rfl, ?_⟩) | (go_at_call 149; (with_reducible refine (spec_l8Field.calls a0_1 3 ((Go.bits .and .i64 t194 1) != 0) false _ A5.out).mono ?_); rintro e w' ⟨rfl, ⟨nd, rfl⟩⟩))
  go_ret
  exact ⟨zE6, zB6_3⟩
 subst c6
 have H1 : ((spec_l8Field.f a0_2 3 ((Go.bits .and .i64 t194 2) != 0)).bind fun t197 => (if t197 = true then ((spec_l8Field.f a0_3 3 ((Go.bits .and .i64 t194 4) != 0)).bind fun t198 => (if t198 = true then ((spec_l8Field.f a0_4 63 ((Go.bits .and .i64 t194 8) != 0)).bind fun t199 => (some t199)) else (some false))) else (some false))) = some r := by rw [if_pos rfl] at H; exact H
 clear H
 have H := H1
 clear H1
 replace H := Option.bind_eq_some_iff.mp H
 obtain ⟨t197, A70, H⟩ := H
 replace H : (if t197 = true then ((spec_l8Field.f a0_3 3 ((Go.bits .and .i64 t194 4) != 0)).bind fun t198 => (if t198 = true then ((spec_l8Field.f a0_4 63 ((Go.bits .and .i64 t194 8) != 0)).bind fun t199 => (some t199)) else (some false))) else (some false)) = some r := H
 have A7 := Aside0.mk A70
 clear A70
 by_cases c8 : t197 = true
 rotate_left
 ·replace c8 := Bool.eq_false_iff.mpr c8
  subst c8
  have H1 : (some false) = some r := by rw [if_neg (show ¬ (false = true) by decide)] at H; exact H
  clear H
  have H := H1
  clear H1
  obtain rfl := Option.some.inj H
  go_enter Try.func126, Try.ntmps126
  go_wp2_with (first | ((with_reducible refine gate_dst (N := 1) rfl ?_); refine box_event ?hg (N := 1) ?hd (cs := #[.int .i64 a0_0, .int .i64 a0_1, .int .i64 a0_2, .int .i64 a0_3, .int .i64 a0_4]) (t := 115) ?hr ?_; (case hd => rfl); (case hg => rfl); (case hr => first | (go_simp; done) | (go_simp; rfl)); intro gb193 hg w20 hbox hb; have n0_ := Aside0.mk (below_step (zB6_1) hb); have n1_ := Aside0.mk (hbox); have n2_ := Aside0.mk ((by rw [hg]; exact (below_size (zB6_1)) : w.heap.size ≤ gb193)); have n3_ := Aside0.mk ((by rw [hg]; exact (below_size (zB6_1)) : w.heap.size ≤ gb193)); clear HB; have HB := n0_; have BK193 := n1_; have GW193 := n2_; have GE193 := n3_; clear n0_ n1_ n2_ n3_; clear hb hbox hg; obtain ⟨hcz21_0, hcz21_1, hcz21_2, hcz21_3, hcz21_4, hfz21_0, hfz21_1, hfz21_2, hfz21_3, hfz21_4⟩ := zc6_5 (w := w20) BK193.out) | ((with_reducible refine gate_callee (f := 148) rfl ?_); refine goesL_ (some 6) rfl rfl Try.func148 (by kernel_rfl) rfl #[.int .i64 a0_0] rfl zT6 ?_; (with_reducible refine (spec_l8Has.calls a0_0 t194 _ A2.out).mono ?_); rintro e w22 ⟨rfl, hb⟩; refine ⟨_, rfl, ?_⟩; have n0_ := Aside0.mk (zb6 BK193.out hb); have n1_ := Aside0.mk (below_step (zB6_3) hb); clear BK193; clear HB; have BK193 := n0_; have HB := n1_; clear n0_ n1_; (try clear hb); (try clear hb2); (try clear hk); (try clear hi); obtain ⟨hcz23_0, hcz23_1, hcz23_2, hcz23_3, hcz23_4, hfz23_0, hfz23_1, hfz23_2, hfz23_3, hfz23_4⟩ := zc6_5 (w := w22) BK193.out) | ((with_reducible refine gate_callee (f := 62) rfl ?_); refine goesL_ (some 9) rfl rfl Try.func62 (by kernel_rfl) rfl #[.int .i64 a0_0, .int .i64 1, .int .i64 10] rfl zT6 ?_; (with_reducible refine (spec_l1In.calls a0_0 1 10 true _ A3.out).mono ?_); rintro e w' ⟨rfl, ⟨nd, rfl⟩⟩; refine ⟨_, rfl, ?_⟩) | (go_at_call 149; (with_reducible refine (spec_l8Field.calls a0_1 3 ((Go.bits .and .i64 t194 1) != 0) true _ A5.out).mono ?_); rintro e w' ⟨rfl, ⟨nd, rfl⟩⟩) | (go_at_call 149; (with_reducible refine (spec_l8Field.calls a0_2 3 ((Go.bits .and .i64 t194 2) != 0) false _ A7.out).mono ?_); rintro e w' ⟨rfl, ⟨nd, rfl⟩⟩))
  go_ret
  exact ⟨zE6, zB6_3⟩
 subst c8
 have H1 : ((spec_l8Field.f a0_3 3 ((Go.bits .and .i64 t194 4) != 0)).bind fun t198 => (if t198 = true then ((spec_l8Field.f a0_4 63 ((Go.bits .and .i64 t194 8) != 0)).bind fun t199 => (some t199)) else (some false))) = some r := by rw [if_pos rfl] at H; exact H
 clear H
 have H := H1
 clear H1
 replace H := Option.bind_eq_some_iff.mp H
 obtain ⟨t198, A90, H⟩ := H
 replace H : (if t198 = true then ((spec_l8Field.f a0_4 63 ((Go.bits .and .i64 t194 8) != 0)).bind fun t199 => (some t199)) else (some false)) = some r := H
 have A9 := Aside0.mk A90
 clear A90
 by_cases c10 : t198 = true
 rotate_left
 ·replace c10 := Bool.eq_false_iff.mpr c10
  subst c10
  have H1 : (some false) = some r := by rw [if_neg (show ¬ (false = true) by decide)] at H; exact H
  clear H
  have H := H1
  clear H1
  obtain rfl := Option.some.inj H
  go_enter Try.func126, Try.ntmps126
  go_wp2_with (first | ((with_reducible refine gate_dst (N := 1) rfl ?_); refine box_event ?hg (N := 1) ?hd (cs := #[.int .i64 a0_0, .int .i64 a0_1, .int .i64 a0_2, .int .i64 a0_3, .int .i64 a0_4]) (t := 115) ?hr ?_; (case hd => rfl); (case hg => rfl); (case hr => first | (go_simp; done) | (go_simp; rfl)); intro gb193 hg w16 hbox hb; have n0_ := Aside0.mk (below_step (zB6_1) hb); have n1_ := Aside0.mk (hbox); have n2_ := Aside0.mk ((by rw [hg]; exact (below_size (zB6_1)) : w.heap.size ≤ gb193)); have n3_ := Aside0.mk ((by rw [hg]; exact (below_size (zB6_1)) : w.heap.size ≤ gb193)); clear HB; have HB := n0_; have BK193 := n1_; have GW193 := n2_; have GE193 := n3_; clear n0_ n1_ n2_ n3_; clear hb hbox hg; obtain ⟨hcz17_0, hcz17_1, hcz17_2, hcz17_3, hcz17_4, hfz17_0, hfz17_1, hfz17_2, hfz17_3, hfz17_4⟩ := zc6_5 (w := w16) BK193.out) | ((with_reducible refine gate_callee (f := 148) rfl ?_); refine goesL_ (some 6) rfl rfl Try.func148 (by kernel_rfl) rfl #[.int .i64 a0_0] rfl zT6 ?_; (with_reducible refine (spec_l8Has.calls a0_0 t194 _ A2.out).mono ?_); rintro e w18 ⟨rfl, hb⟩; refine ⟨_, rfl, ?_⟩; have n0_ := Aside0.mk (zb6 BK193.out hb); have n1_ := Aside0.mk (below_step (zB6_3) hb); clear BK193; clear HB; have BK193 := n0_; have HB := n1_; clear n0_ n1_; (try clear hb); (try clear hb2); (try clear hk); (try clear hi); obtain ⟨hcz19_0, hcz19_1, hcz19_2, hcz19_3, hcz19_4, hfz19_0, hfz19_1, hfz19_2, hfz19_3, hfz19_4⟩ := zc6_5 (w := w18) BK193.out) | ((with_reducible refine gate_callee (f := 62) rfl ?_); refine goesL_ (some 9) rfl rfl Try.func62 (by kernel_rfl) rfl #[.int .i64 a0_0, .int .i64 1, .int .i64 10] rfl zT6 ?_; (with_reducible refine (spec_l1In.calls a0_0 1 10 true _ A3.out).mono ?_); rintro e w' ⟨rfl, ⟨nd, rfl⟩⟩; refine ⟨_, rfl, ?_⟩) | (go_at_call 149; (with_reducible refine (spec_l8Field.calls a0_1 3 ((Go.bits .and .i64 t194 1) != 0) true _ A5.out).mono ?_); rintro e w' ⟨rfl, ⟨nd, rfl⟩⟩) | (go_at_call 149; (with_reducible refine (spec_l8Field.calls a0_2 3 ((Go.bits .and .i64 t194 2) != 0) true _ A7.out).mono ?_); rintro e w' ⟨rfl, ⟨nd, rfl⟩⟩) | (go_at_call 149; (with_reducible refine (spec_l8Field.calls a0_3 3 ((Go.bits .and .i64 t194 4) != 0) false _ A9.out).mono ?_); rintro e w' ⟨rfl, ⟨nd, rfl⟩⟩))
  go_ret
  exact ⟨zE6, zB6_3⟩
 subst c10
 have H1 : ((spec_l8Field.f a0_4 63 ((Go.bits .and .i64 t194 8) != 0)).bind fun t199 => (some t199)) = some r := by rw [if_pos rfl] at H; exact H
 clear H
 have H := H1
 clear H1
 replace H := Option.bind_eq_some_iff.mp H
 obtain ⟨t199, A110, H⟩ := H
 replace H : (some t199) = some r := H
 have A11 := Aside0.mk A110
 clear A110
 obtain rfl := Option.some.inj H
 go_enter Try.func126, Try.ntmps126
 go_wp2_with (first | ((with_reducible refine gate_dst (N := 1) rfl ?_); refine box_event ?hg (N := 1) ?hd (cs := #[.int .i64 a0_0, .int .i64 a0_1, .int .i64 a0_2, .int .i64 a0_3, .int .i64 a0_4]) (t := 115) ?hr ?_; (case hd => rfl); (case hg => rfl); (case hr => first | (go_simp; done) | (go_simp; rfl)); intro gb193 hg w12 hbox hb; have n0_ := Aside0.mk (below_step (zB6_1) hb); have n1_ := Aside0.mk (hbox); have n2_ := Aside0.mk ((by rw [hg]; exact (below_size (zB6_1)) : w.heap.size ≤ gb193)); have n3_ := Aside0.mk ((by rw [hg]; exact (below_size (zB6_1)) : w.heap.size ≤ gb193)); clear HB; have HB := n0_; have BK193 := n1_; have GW193 := n2_; have GE193 := n3_; clear n0_ n1_ n2_ n3_; clear hb hbox hg; obtain ⟨hcz13_0, hcz13_1, hcz13_2, hcz13_3, hcz13_4, hfz13_0, hfz13_1, hfz13_2, hfz13_3, hfz13_4⟩ := zc6_5 (w := w12) BK193.out) | ((with_reducible refine gate_callee (f := 148) rfl ?_); refine goesL_ (some 6) rfl rfl Try.func148 (by kernel_rfl) rfl #[.int .i64 a0_0] rfl zT6 ?_; (with_reducible refine (spec_l8Has.calls a0_0 t194 _ A2.out).mono ?_); rintro e w14 ⟨rfl, hb⟩; refine ⟨_, rfl, ?_⟩; have n0_ := Aside0.mk (zb6 BK193.out hb); have n1_ := Aside0.mk (below_step (zB6_3) hb); clear BK193; clear HB; have BK193 := n0_; have HB := n1_; clear n0_ n1_; (try clear hb); (try clear hb2); (try clear hk); (try clear hi); obtain ⟨hcz15_0, hcz15_1, hcz15_2, hcz15_3, hcz15_4, hfz15_0, hfz15_1, hfz15_2, hfz15_3, hfz15_4⟩ := zc6_5 (w := w14) BK193.out) | ((with_reducible refine gate_callee (f := 62) rfl ?_); refine goesL_ (some 9) rfl rfl Try.func62 (by kernel_rfl) rfl #[.int .i64 a0_0, .int .i64 1, .int .i64 10] rfl zT6 ?_; (with_reducible refine (spec_l1In.calls a0_0 1 10 true _ A3.out).mono ?_); rintro e w' ⟨rfl, ⟨nd, rfl⟩⟩; refine ⟨_, rfl, ?_⟩) | (go_at_call 149; (with_reducible refine (spec_l8Field.calls a0_1 3 ((Go.bits .and .i64 t194 1) != 0) true _ A5.out).mono ?_); rintro e w' ⟨rfl, ⟨nd, rfl⟩⟩) | (go_at_call 149; (with_reducible refine (spec_l8Field.calls a0_2 3 ((Go.bits .and .i64 t194 2) != 0) true _ A7.out).mono ?_); rintro e w' ⟨rfl, ⟨nd, rfl⟩⟩) | (go_at_call 149; (with_reducible refine (spec_l8Field.calls a0_3 3 ((Go.bits .and .i64 t194 4) != 0) true _ A9.out).mono ?_); rintro e w' ⟨rfl, ⟨nd, rfl⟩⟩) | (go_at_call 149; (with_reducible refine (spec_l8Field.calls a0_4 63 ((Go.bits .and .i64 t194 8) != 0) t199 _ A11.out).mono ?_); rintro e w' ⟨rfl, ⟨nd, rfl⟩⟩))
 go_ret
 exact ⟨zE6, zB6_3⟩

/-! ### spec_l27Name: function 127 -/
def spec_l27Name.l0 : Nat → ByteArray → Int → Option (Bool)
 | 0, _, _ => none
 | k + 1, x0, x3 => if x3 < (x0.size : Int) then (if 0 ≤ x3 then (if (bt x0 x3) < 97 then (some false) else (if (bt x0 x3) > 122 then (some false) else (spec_l27Name.l0 k x0 (wrap64 (x3 + 1))))) else (none)) else ((spec_l1In.f (x0.size : Int) 1 8).bind fun t200 => (some t200))
def spec_l27Name.f (k : Nat) (a0 : ByteArray) : Option (Bool) := spec_l27Name.l0 k a0 0
theorem spec_l27Name.mono_l : ∀ k, (∀ y0 y1, LeO (spec_l27Name.l0 k y0 y1) (spec_l27Name.l0 (k + 1) y0 y1))
 | 0 => fun _ _ r h => by simp [spec_l27Name.l0] at h
 | k + 1 => by
  have ih0 := spec_l27Name.mono_l k
  ·intro y0 y1
   unfold spec_l27Name.l0
   repeat' first
   | (with_reducible exact ih0 _ _)
   | (with_reducible exact LeO.refl _)
   | (with_reducible exact LeO.none _)
   | (with_reducible refine LeO.ite ?_ ?_)
   | (with_reducible refine LeO.bind ?_ (fun _ => ?_))
   | exact ih0 _ _
   | exact LeO.none _
   | refine LeO.ite ?_ ?_
   | refine LeO.bind ?_ (fun _ => ?_)
theorem spec_l27Name.mono : ∀ a0 k, LeO (spec_l27Name.f k a0) (spec_l27Name.f (k + 1) a0) := by
 intro a0 k
 have ih0 := spec_l27Name.mono_l k
 unfold spec_l27Name.f
 repeat' first
   | (with_reducible exact ih0 _ _)
   | (with_reducible exact LeO.refl _)
   | (with_reducible exact LeO.none _)
   | (with_reducible refine LeO.ite ?_ ?_)
   | (with_reducible refine LeO.bind ?_ (fun _ => ?_))
   | exact ih0 _ _
   | exact LeO.none _
   | refine LeO.ite ?_ ?_
   | refine LeO.bind ?_ (fun _ => ?_)
set_option maxHeartbeats 8000000 in
set_option maxRecDepth 100000 in
theorem spec_l27Name.calls (k : Nat) (a0 : ByteArray) (r : Bool) (w : World) (h : spec_l27Name.f k a0 = some r) :
  Calls Try.prog 127 #[.string a0] w fun e w' => e = .returned (.bool r) ∧ Drawn0 w w' := by
 have H : (spec_l27Name.l0 k a0 0) = some r := h
 clear h
 have H' := Aside0.mk H
 clear H
 go_enter Try.func127, Try.ntmps127
 go_wp2
 go_loopg [3] k (fun kq v3 w' => ∃ (x3_1 : Int), v3 = .int .i64 x3_1 ∧ Aside0 (spec_l27Name.l0 kq a0 x3_1 = some r) ∧ Aside0 (kq ≤ k) ∧ Drawn0 w w')
 case atStart => exact ⟨(0), (by first | rfl | (simp; done) | (simp [*]; done)), H', ⟨Nat.le_refl _⟩, by repeat (first | exact Drawn0.refl _ | apply Drawn0.step)⟩
 case round =>
  clear H'
  try clear c1
  obtain ⟨x3_1, rfl, HA, HK1, ⟨m1, rfl⟩⟩ := hrel
  cases gk with
  | zero => exact absurd HA.out (by simp [spec_l27Name.l0])
  | succ k1 =>
   have H := HA.out
   clear HA
   simp only [spec_l27Name.l0] at H
   by_cases c2 : x3_1 < (a0.size : Int)
   rotate_left
   ·rw [if_neg c2] at H
    have c2b0 : decide (x3_1 < (a0.size : Int)) = false := decide_eq_false c2
    clear c2
    replace H := Option.bind_eq_some_iff.mp H
    obtain ⟨t200, A80, H⟩ := H
    replace H : (some t200) = some r := H
    have A8 := Aside0.mk A80
    clear A80
    obtain rfl := Option.some.inj H
    go_wp2_with (first | ((with_reducible refine gate_callee (f := 62) rfl ?_); refine goesL_ (some 22) rfl rfl Try.func62 (by kernel_rfl) rfl #[.int .i64 (a0.size : Int), .int .i64 1, .int .i64 8] rfl zT6 ?_; (with_reducible refine (spec_l1In.calls (a0.size : Int) 1 8 t200 _ A8.out).mono ?_); rintro e w' ⟨rfl, ⟨nd, rfl⟩⟩; refine ⟨_, rfl, ?_⟩))
    go_ret
    exact ⟨by first | rfl | (simp; done) | (simp [*]; done), by repeat (first | exact Drawn0.refl _ | apply Drawn0.step)⟩
   rw [if_pos c2] at H
   have c2b0 : decide (x3_1 < (a0.size : Int)) = true := decide_eq_true c2
   clear c2
   by_cases c3 : 0 ≤ x3_1
   rotate_left
   ·rw [if_neg c3] at H
    exact absurd H (by simp)
   rw [if_pos c3] at H
   have c3b0 : decide (0 ≤ x3_1) = true := decide_eq_true c3
   clear c3
   by_cases c5 : (bt a0 x3_1) < 97
   ·rw [if_pos c5] at H
    have c5b0 : decide ((bt a0 x3_1) < 97) = true := decide_eq_true c5
    clear c5
    obtain rfl := Option.some.inj H
    have p4 : 0 ≤ (x3_1 : Int) := zA6
    have q4 : x3_1 < (a0.size : Int) := zA6
    have hx4 := bt_at a0 x3_1
    replace p4 := eq_true p4
    replace q4 := eq_true q4
    go_wp2
    go_ret
    exact ⟨by first | rfl | (simp; done) | (simp [*]; done), by repeat (first | exact Drawn0.refl _ | apply Drawn0.step)⟩
   rw [if_neg c5] at H
   have c5b0 : decide ((bt a0 x3_1) < 97) = false := decide_eq_false c5
   clear c5
   by_cases c7 : (bt a0 x3_1) > 122
   ·rw [if_pos c7] at H
    have c7b0 : decide (122 < (bt a0 x3_1)) = true := decide_eq_true c7
    clear c7
    obtain rfl := Option.some.inj H
    have p4 : 0 ≤ (x3_1 : Int) := zA6
    have q4 : x3_1 < (a0.size : Int) := zA6
    have hx4 := bt_at a0 x3_1
    replace p4 := eq_true p4
    replace q4 := eq_true q4
    have p6 : 0 ≤ (x3_1 : Int) := zA6
    have q6 : x3_1 < (a0.size : Int) := zA6
    have hx6 := bt_at a0 x3_1
    replace p6 := eq_true p6
    replace q6 := eq_true q6
    go_wp2
    go_ret
    exact ⟨by first | rfl | (simp; done) | (simp [*]; done), by repeat (first | exact Drawn0.refl _ | apply Drawn0.step)⟩
   rw [if_neg c7] at H
   have c7b0 : decide (122 < (bt a0 x3_1)) = false := decide_eq_false c7
   clear c7
   have H' := Aside0.mk H
   clear H
   have p4 : 0 ≤ (x3_1 : Int) := zA6
   have q4 : x3_1 < (a0.size : Int) := zA6
   have hx4 := bt_at a0 x3_1
   replace p4 := eq_true p4
   replace q4 := eq_true q4
   have p6 : 0 ≤ (x3_1 : Int) := zA6
   have q6 : x3_1 < (a0.size : Int) := zA6
   have hx6 := bt_at a0 x3_1
   replace p6 := eq_true p6
   replace q6 := eq_true q6
   go_wp2
   go_roundg k1
   case measure => have := HK1.out; omega
   case rel => exact ⟨(wrap64 (x3_1 + 1)), (by first | rfl | (simp; done) | (simp [*]; done)), H', ⟨by have := HK1.out; omega⟩, by repeat (first | exact Drawn0.refl _ | apply Drawn0.step)⟩

/-! ### spec_l27Goes: function 128 -/
def spec_l27Goes.f (a0_0 : Int) (a0_1 : Int) (a0_2 : Int) (a0_3 : Int) (a0_4 : Int) : Option (Bool) := if a0_0 = 8 then (some true) else (some (a0_0 == 7))
set_option maxHeartbeats 8000000 in
set_option maxRecDepth 100000 in
theorem spec_l27Goes.calls (a0_0 : Int) (a0_1 : Int) (a0_2 : Int) (a0_3 : Int) (a0_4 : Int) (r : Bool) (w : World) (h : spec_l27Goes.f a0_0 a0_1 a0_2 a0_3 a0_4 = some r) :
  Calls Try.prog 128 #[.agg #[.int .i64 a0_0, .int .i64 a0_1, .int .i64 a0_2, .int .i64 a0_3, .int .i64 a0_4]] w fun e w' => e = .returned (.bool r) ∧ Below w.heap.size w w' := by
 have hu115 := Try.underlying115
 have HB := Aside0.mk (Below.refl w.heap.size w)
 have H : (if a0_0 = 8 then (some true) else (some (a0_0 == 7))) = some r := h
 clear h
 by_cases c2 : a0_0 = 8
 rotate_left
 ·rw [if_neg c2] at H
  have c2b0 : (a0_0 == 8) = false := beq_eq_false_iff_ne.mpr c2
  have c2b1 : (a0_0 != 8) = true := bne_iff_ne.mpr c2
  obtain rfl := Option.some.inj H
  go_enter Try.func128, Try.ntmps128
  go_wp2_with (first | ((with_reducible refine gate_dst (N := 1) rfl ?_); refine box_event ?hg (N := 1) ?hd (cs := #[.int .i64 a0_0, .int .i64 a0_1, .int .i64 a0_2, .int .i64 a0_3, .int .i64 a0_4]) (t := 115) ?hr ?_; (case hd => rfl); (case hg => rfl); (case hr => first | (go_simp; done) | (go_simp; rfl)); intro gb201 hg w5 hbox hb; have n0_ := Aside0.mk (below_step (zB6_1) hb); have n1_ := Aside0.mk (hbox); have n2_ := Aside0.mk ((by rw [hg]; exact (below_size (zB6_1)) : w.heap.size ≤ gb201)); have n3_ := Aside0.mk ((by rw [hg]; exact (below_size (zB6_1)) : w.heap.size ≤ gb201)); clear HB; have HB := n0_; have BK201 := n1_; have GW201 := n2_; have GE201 := n3_; clear n0_ n1_ n2_ n3_; clear hb hbox hg; obtain ⟨hcz6_0, hcz6_1, hcz6_2, hcz6_3, hcz6_4, hfz6_0, hfz6_1, hfz6_2, hfz6_3, hfz6_4⟩ := zc6_5 (w := w5) BK201.out))
  go_ret
  exact ⟨zE6, zB6_4⟩
 rw [if_pos c2] at H
 have c2b0 : (a0_0 == 8) = true := beq_iff_eq.mpr c2
 have c2b1 : (a0_0 != 8) = false := bne_eq_false_iff_eq.mpr c2
 clear c2
 obtain rfl := Option.some.inj H
 go_enter Try.func128, Try.ntmps128
 go_wp2_with (first | ((with_reducible refine gate_dst (N := 1) rfl ?_); refine box_event ?hg (N := 1) ?hd (cs := #[.int .i64 a0_0, .int .i64 a0_1, .int .i64 a0_2, .int .i64 a0_3, .int .i64 a0_4]) (t := 115) ?hr ?_; (case hd => rfl); (case hg => rfl); (case hr => first | (go_simp; done) | (go_simp; rfl)); intro gb201 hg w3 hbox hb; have n0_ := Aside0.mk (below_step (zB6_1) hb); have n1_ := Aside0.mk (hbox); have n2_ := Aside0.mk ((by rw [hg]; exact (below_size (zB6_1)) : w.heap.size ≤ gb201)); have n3_ := Aside0.mk ((by rw [hg]; exact (below_size (zB6_1)) : w.heap.size ≤ gb201)); clear HB; have HB := n0_; have BK201 := n1_; have GW201 := n2_; have GE201 := n3_; clear n0_ n1_ n2_ n3_; clear hb hbox hg; obtain ⟨hcz4_0, hcz4_1, hcz4_2, hcz4_3, hcz4_4, hfz4_0, hfz4_1, hfz4_2, hfz4_3, hfz4_4⟩ := zc6_5 (w := w3) BK201.out))
 go_ret
 exact ⟨zE6, zB6_4⟩

end Go.Proofs.Ytbbieaglfgipnaa.PFnExactLink
