-- made by wip/tools/myprint.py out of the seat's translation
import Derived.Test.YtddncenhddiemaaPFnExactPartOkx0
import Derived.Test.YtddncenhddiemaaPFnExactPartOkx1
import Derived.Test.YtddncenhddiemaaPFnExactPartOkx3
namespace Go.Proofs.Ytddncenhddiemaa.PFnExactPartOk
open Go.RowKit Go.Proofs.YtddncenhddiemaaW.PrintWords Go.Proofs.YtddncenhddiemaaW.PrintLast Go.Proofs.YtddncenhddiemaaW.PrintMore
attribute [local go_sem] max2_int min2_int max_two min_two max_three min_three max_four min_four   -- for this text's walks alone
set_option linter.unusedVariables false
set_option linter.unusedSimpArgs false

attribute [local go_sem high] eqA54
/-! ### laws_toRefS: function 103 -/
def laws_toRefS.l0 : Nat → List (S159) → List (S87) → Int → Option ((List (S87)))
  | 0, _, _, _ => none
  | k + 1, x0, x3, x4 => if x4 < (x0.length : Int) then (if 0 ≤ x4 then ((laws_toRef.f ((rd_T159 x0 x4).f0) ((rd_T159 x0 x4).f1)).bind fun bt156 => (if x4 < (x3.length : Int) then (laws_toRefS.l0 k x0 (x3.set (x4 : Int).toNat (⟨bt156.1, bt156.2⟩ : S87)) (wrap64 (x4 + 1))) else (none))) else (none)) else (some x3)
def laws_toRefS.f (k : Nat) (l0 : List (S159)) : Option ((List (S87))) := if 0 ≤ (l0.length : Int) then (if ((l0.length : Int) : Int).toNat ≤ 11728124029610 then (laws_toRefS.l0 k l0 (List.replicate ((l0.length : Int) : Int).toNat z87) 0) else (none)) else (none)
theorem laws_toRefS.mono_l : ∀ k, (∀ y0 y1 y2, LeO (laws_toRefS.l0 k y0 y1 y2) (laws_toRefS.l0 (k + 1) y0 y1 y2))
  | 0 => fun _ _ _ r h => by simp [laws_toRefS.l0] at h
  | k + 1 => by
    have ih0 := laws_toRefS.mono_l k
    · intro y0 y1 y2
      unfold laws_toRefS.l0
      repeat' first
      | (with_reducible exact ih0 _ _ _)
      | (with_reducible exact LeO.refl _)
      | (with_reducible exact LeO.none _)
      | (with_reducible refine LeO.ite ?_ ?_)
      | (with_reducible refine LeO.bind ?_ (fun _ => ?_))
      | exact ih0 _ _ _
      | exact LeO.none _
      | refine LeO.ite ?_ ?_
      | refine LeO.bind ?_ (fun _ => ?_)
theorem laws_toRefS.mono : ∀ a0 k, LeO (laws_toRefS.f k a0) (laws_toRefS.f (k + 1) a0) := by
  intro a0 k
  have ih0 := laws_toRefS.mono_l k
  unfold laws_toRefS.f
  repeat' first
      | (with_reducible exact ih0 _ _ _)
      | (with_reducible exact LeO.refl _)
      | (with_reducible exact LeO.none _)
      | (with_reducible refine LeO.ite ?_ ?_)
      | (with_reducible refine LeO.bind ?_ (fun _ => ?_))
      | exact ih0 _ _ _
      | exact LeO.none _
      | refine LeO.ite ?_ ?_
      | refine LeO.bind ?_ (fun _ => ?_)
set_option maxHeartbeats 8000000 in
set_option maxRecDepth 100000 in
theorem laws_toRefS.calls (k : Nat) (A0 : Option Addr) (c0 : Nat) (l0 : List (S159)) (r : List (S87)) (w : World) (hr0 : Kd.C k159 w A0 l0.length l0) (hc0 : l0.length ≤ c0) (h : laws_toRefS.f k l0 = some r) :
    Calls Try.prog 103 #[.slice A0 l0.length c0] w fun e w' => ∃ v0_ : Value, e = .returned (v0_) ∧ Kd.R k87 87 w' w.heap.size (fun _ => True) v0_ r ∧ Below w.heap.size w w' := by
  have hu159 := Try.underlying159
  have hu87 := Try.underlying87
  have HR0 := Aside0.mk hr0
  have HC0 := Aside0.mk hc0
  clear hr0 hc0
  have HB := Aside0.mk (Below.refl w.heap.size w)
  have H : (if 0 ≤ (l0.length : Int) then (if ((l0.length : Int) : Int).toNat ≤ 11728124029610 then (laws_toRefS.l0 k l0 (List.replicate ((l0.length : Int) : Int).toNat z87) 0) else (none)) else (none)) = some r := h
  clear h
  by_cases c2 : 0 ≤ (l0.length : Int)
  · rw [if_pos c2] at H
    have c2b0 := eq_true c2
    have c2b1 : decide (0 ≤ (l0.length : Int)) = true := decide_eq_true c2
    clear c2
    by_cases c3 : ((l0.length : Int) : Int).toNat ≤ 11728124029610
    · rw [if_pos c3] at H
      have c3b0 := eq_true c3
      have c3b1 : decide (((l0.length : Int) : Int).toNat ≤ 11728124029610) = true := decide_eq_true c3
      clear c3
      obtain ⟨y152, hy152⟩ : ∃ y_ : List (S87), y_ = (List.replicate ((l0.length : Int) : Int).toNat z87) := ⟨_, rfl⟩
      replace H : (laws_toRefS.l0 k l0 y152 0) = some r := by first | (rw [hy152]; with_reducible exact H) | (have H2_ := (Option.bind_some _ _).symm.trans H; rw [hy152]; with_reducible exact H2_) | (have H2_ := (Option.bind_some _ _).symm.trans H; with_reducible exact H2_) | with_reducible exact H | (rw [hy152]; exact H) | exact H
      have Ny152 := Aside0.mk hy152
      clear hy152
      have H' := Aside0.mk H
      clear H
      go_enter Try.func103, Try.ntmps103
      go_wp2_with (first | ((with_reducible refine gate_dst (N := 7) rfl ?_); refine Kd.R_make k87 _ 87 rfl (N := 7) rfl 43 _ _ rfl (l0.length : Int) rfl rfl Try.underlying43 (.agg #[(.int .i64 0), (.string ⟨#[]⟩)]) 24 info87 rfl (by decide) (by omega) z87 (ok := fun _ => True) (okp := fun _ => True) (k87_mkM _ _ _ z87 ) (fun _ hk => hk) trivial (of_decide_eq_true (by first | (with_reducible assumption) | assumption)) (Nat.le_trans (Nat.mul_le_mul_right _ (of_decide_eq_true (by first | (with_reducible assumption) | assumption) : (l0.length : Int).toNat ≤ 11728124029610)) (by omega)) (Below.refl _ _) (Nat.le_refl _) ?_; intro v153 w4 ho5 hb hg_ hnew_; clear hg_ hnew_; (first | rw [← Ny152.out] at ho5 | (simp only [Int.reduceToNat] at ho5; rw [← Ny152.out] at ho5)); have n0_ := Aside0.mk (Kd.R_lower ho5 (below_size (by repeat (first | (with_reducible first | exact HB.out | apply below_alloc | apply pw_below_drewN | apply below_drew1) | exact HB.out)))); have n1_ := Aside0.mk (below_step (by repeat (first | (with_reducible first | exact HB.out | apply below_alloc | apply pw_below_drewN | apply below_drew1) | exact HB.out)) hb); clear HB; have HO154 := n0_; have HB := n1_; clear n0_ n1_; clear hb ho5))
      go_loopg [4] k (fun kq v4 w' => ∃ (x3_1 : List (S87)) (x4_1 : Int), v4 = .int .i64 x4_1 ∧ Aside0 (laws_toRefS.l0 kq l0 x3_1 x4_1 = some r) ∧ Aside0 (kq ≤ k) ∧ Aside0 (Kd.R k87 87 w' w.heap.size (fun _ => True) v153 x3_1) ∧ Aside0 (Below w.heap.size w w'))
      case atStart => exact ⟨(y152), (0), (by first | rfl | (simp; done) | (simp [*]; done)), H', ⟨Nat.le_refl _⟩, ⟨by (with_reducible repeat (first | apply Kd.R_alloc | apply Kd.R_drewN | apply Kd.R_drew)); exact HO154.out⟩, ⟨by repeat (first | (with_reducible first | exact HB.out | apply below_alloc | apply pw_below_drewN | apply below_drew1) | exact HB.out)⟩⟩
      case round =>
        clear H'
        try clear c1
        try clear c2
        try clear c2b0
        try clear c2b1
        try clear p2
        try clear c3
        try clear c3b0
        try clear c3b1
        obtain ⟨x3_1, x4_1, rfl, HA, HK1, HO_3, HB⟩ := hrel
        cases gk with
        | zero => exact absurd HA.out (by simp [laws_toRefS.l0])
        | succ k1 =>
          have H := HA.out
          clear HA
          simp only [laws_toRefS.l0] at H
          by_cases c6 : x4_1 < (l0.length : Int)
          · rw [if_pos c6] at H
            have c6b0 : decide (x4_1 < (l0.length : Int)) = true := decide_eq_true c6
            clear c6
            by_cases c7 : 0 ≤ x4_1
            · rw [if_pos c7] at H
              have c7b0 : decide (0 ≤ x4_1) = true := decide_eq_true c7
              clear c7
              replace H := Option.bind_eq_some_iff.mp H
              obtain ⟨⟨t156, t157⟩, A80, H⟩ := H
              replace H : (if x4_1 < (x3_1.length : Int) then (laws_toRefS.l0 k1 l0 (x3_1.set (x4_1 : Int).toNat (⟨t156, t157⟩ : S87)) (wrap64 (x4_1 + 1))) else (none)) = some r := H
              have A8 := Aside0.mk A80
              clear A80
              by_cases c9 : x4_1 < (x3_1.length : Int)
              · rw [if_pos c9] at H
                have c9b0 : decide (x4_1 < (x3_1.length : Int)) = true := decide_eq_true c9
                clear c9
                obtain ⟨y158, hy158⟩ : ∃ y_ : List (S87), y_ = (x3_1.set (x4_1 : Int).toNat (⟨t156, t157⟩ : S87)) := ⟨_, rfl⟩
                replace H : (laws_toRefS.l0 k1 l0 y158 (wrap64 (x4_1 + 1))) = some r := by first | (rw [hy158]; with_reducible exact H) | (have H2_ := (Option.bind_some _ _).symm.trans H; rw [hy158]; with_reducible exact H2_) | (have H2_ := (Option.bind_some _ _).symm.trans H; with_reducible exact H2_) | with_reducible exact H | (rw [hy158]; exact H) | exact H
                have Ny158 := Aside0.mk hy158
                clear hy158
                have H' := Aside0.mk H
                clear H
                have p155 : 0 ≤ (x4_1 : Int) := of_decide_eq_true (by first | (with_reducible assumption) | assumption)
                have q155 : x4_1 < (l0.length : Int) := of_decide_eq_true (by first | (with_reducible assumption) | assumption)
                obtain ⟨ad155, e155, hx155_0, hx155_1⟩ := at_T159 HR0.out x4_1 p155 q155
                cases e155
                replace hx155_0 := (HB.out.cell (World.block_lt_of_cell? w _ hx155_0)).trans hx155_0
                replace hx155_1 := (HB.out.cell (World.block_lt_of_cell? w _ hx155_1)).trans hx155_1
                replace p155 := eq_true p155
                replace q155 := eq_true q155
                go_wp2_with (first | ((with_reducible refine gate_callee (f := 161) rfl ?_); refine goesL_ (some 20) rfl rfl Try.func161 (by kernel_rfl) rfl #[.agg #[.int .i64 ((rd_T159 l0 x4_1).f0), .string ((rd_T159 l0 x4_1).f1)]] rfl (by (try simp only [List.map_toArray, List.map_cons, List.map_nil]); first | done | rfl | (simp only [List.length_drop, List.length_take]; rfl)) ?_; (with_reducible refine (laws_toRef.calls ((rd_T159 l0 x4_1).f0) ((rd_T159 l0 x4_1).f1) t156 t157 _ A8.out).mono ?_); rintro e w11 ⟨rfl, hb⟩; refine ⟨_, rfl, ?_⟩; have n0_ := Aside0.mk (Kd.R_below (by (with_reducible repeat (first | apply Kd.R_alloc | apply Kd.R_drewN | apply Kd.R_drew)); exact HO_3.out) hb); have n1_ := Aside0.mk (below_step (by repeat (first | (with_reducible first | exact HB.out | apply below_alloc | apply pw_below_drewN | apply below_drew1) | exact HB.out)) hb); clear HO_3; clear HB; have HO_3 := n0_; have HB := n1_; clear n0_ n1_; (try clear hb); (try clear hb2); (try clear hk); (try clear hi); have p10 : 0 ≤ (x4_1 : Int) := of_decide_eq_true (by first | (with_reducible assumption) | assumption); have q10 : (x4_1 : Int) < ((x3_1.length : Int) : Int) := of_decide_eq_true (by first | (with_reducible assumption) | assumption); obtain ⟨go10, co10, eo10, gb10, gl10, cl10, HG10⟩ := Kd.R_form HO_3.out (by omega); (first | cases eo10 | (injection eo10 with ea_ en_ ec_; (first | subst ea_ | (injection ea_ with ea_; subst ea_)); subst ec_; clear en_)); have GB10 := Aside0.mk gb10; have GG10 := Aside0.mk HG10; clear gb10 gl10 HG10; obtain ⟨ce10, hcl10, hM10, hcc10, hfr10⟩ := Kd.R_elem HO_3.out z87 (x4_1 : Int) p10 q10; obtain rfl := k87_openM hM10; have hx10_0 : w11.cell? ⟨go10, (x4_1 : Int).toNat * 2, none⟩ = some (.int .i64 ((rd_T87 x3_1 x4_1).f0)) := hcc10 0 _ rfl; have hx10_1 : w11.cell? ⟨go10, (x4_1 : Int).toNat * 2 + 1, none⟩ = some (.string ((rd_T87 x3_1 x4_1).f1)) := hcc10 1 _ rfl; have hf10_0 : w11.frozen? ⟨go10, (x4_1 : Int).toNat * 2, none⟩ = false := hfr10 0; have hf10_1 : w11.frozen? ⟨go10, (x4_1 : Int).toNat * 2 + 1, none⟩ = false := hfr10 1; clear hcl10 hcc10 hfr10 hM10; replace p10 := eq_true p10; replace q10 := eq_true q10; have HX12 := Aside0.mk (show Kd.R k87 87 w11 w.heap.size (fun _ => True) (.slice (some ⟨go10, 0, none⟩) x3_1.length co10) x3_1 from (by (with_reducible repeat (first | apply Kd.R_alloc | apply Kd.R_drewN | apply Kd.R_drew)); exact HO_3.out)); obtain ⟨ce12, hcl12, hM12, hcc12, hfr12⟩ := Kd.R_elem HX12.out z87 (x4_1 : Int) (of_decide_eq_true (by first | (with_reducible assumption) | assumption)) (by have h_ : (x4_1 : Int) < ((x3_1.length : Int) : Int) := of_decide_eq_true (by first | (with_reducible assumption) | assumption); first | exact h_ | (have e_ := (Kd.R_reads' HO_3.out).1; omega) | simpa using h_); obtain rfl := k87_openM hM12; have HP12 := Kd.R_seg HX12.out (x4_1 : Int) (of_decide_eq_true (by first | (with_reducible assumption) | assumption)) (by have h_ : (x4_1 : Int) < ((x3_1.length : Int) : Int) := of_decide_eq_true (by first | (with_reducible assumption) | assumption); first | exact h_ | (have e_ := (Kd.R_reads' HO_3.out).1; omega) | simpa using h_) (seg := [.int .i64 t156, .string t157]) (j := 0) hcl12 hcc12 (show 2 ≤ 2 from by decide) (x' := (⟨t156, t157⟩ : S87)) (k87_mkM _ _ _ (⟨t156, t157⟩ : S87) ) (fun _ hk => hk); have hx12_0 := hcc12 0 _ rfl; (try simp only [show (k87).sz = 2 from rfl, Nat.mul_one, Nat.add_zero] at hx12_0); have hf12_0 := hfr12 0; (try simp only [show (k87).sz = 2 from rfl, Nat.mul_one, Nat.add_zero] at hf12_0); have hx12_1 := hcc12 1 _ rfl; (try simp only [show (k87).sz = 2 from rfl, Nat.mul_one, Nat.add_zero] at hx12_1); have hf12_1 := hfr12 1; (try simp only [show (k87).sz = 2 from rfl, Nat.mul_one, Nat.add_zero] at hf12_1); clear hcl12 hcc12 hfr12 hM12) | ((with_reducible refine gate_store (t := 87) (p := 21) rfl ?_); refine store_event (t := 87) (p := 21) (v := ?vo_w13) (w1 := ((w11.setCell ⟨go10, (x4_1 : Int).toNat * 2, none⟩ (.int .i64 t156)).setCell ⟨go10, (x4_1 : Int).toNat * 2 + 1, none⟩ (.string t157))) ?hg ?ho ?hn ?hr ?_; (case ho => rfl); (case hg => rfl); (case hn => rfl); (case hr => first | (go_simp; done) | (go_simp; rfl)); intro w13 hw; have hg : w11.grownBy w13 (some go10) := (by rw [hw]; exact HP12.2); have hp_ : Kd.R k87 87 w13 w.heap.size (fun _ => True) (.slice (some ⟨go10, 0, none⟩) x3_1.length co10) y158 := (by rw [hw, Ny158.out]; exact HP12.1); clear HP12; have n0_ := Aside0.mk (hp_); have n1_ := Aside0.mk ((by rw [hw]; exact below_set (below_set (HB.out) GB10.out) GB10.out : Below w.heap.size w w13)); clear HO_3; clear HB; have HO_3 := n0_; have HB := n1_; clear n0_ n1_; clear hg hw hp_))
                go_roundg k1
                case measure => have := HK1.out; omega
                case rel => exact ⟨(y158), (wrap64 (x4_1 + 1)), (by first | rfl | (simp; done) | (simp [*]; done)), H', ⟨by have := HK1.out; omega⟩, ⟨by (with_reducible repeat (first | apply Kd.R_alloc | apply Kd.R_drewN | apply Kd.R_drew)); exact HO_3.out⟩, ⟨by repeat (first | (with_reducible first | exact HB.out | apply below_alloc | apply pw_below_drewN | apply below_drew1) | exact HB.out)⟩⟩
              · rw [if_neg c9] at H
                exact absurd H (by simp)
            · rw [if_neg c7] at H
              exact absurd H (by simp)
          · rw [if_neg c6] at H
            have c6b0 : decide (x4_1 < (l0.length : Int)) = false := decide_eq_false c6
            clear c6
            obtain rfl := Option.some.inj H
            go_wp2
            go_ret
            exact ⟨_, by first | rfl | (simp [errW_none, errW_some] <;> rfl) | (simp [*, errW_none, errW_some] <;> rfl), by (with_reducible repeat (first | apply Kd.R_alloc | apply Kd.R_drewN | apply Kd.R_drew)); exact HO_3.out, by repeat (first | (with_reducible first | exact HB.out | apply below_alloc | apply pw_below_drewN | apply below_drew1) | exact HB.out)⟩
    · rw [if_neg c3] at H
      exact absurd H (by simp)
  · rw [if_neg c2] at H
    exact absurd H (by simp)

/-! ### laws_toPart: function 26 -/
def laws_toPart.f (k : Nat) (a0_0 : ByteArray) (l0_1 : List (S162)) (l0_2 : List (S159)) : Option (ByteArray × (List (S54)) × (List (S87))) := (laws_toInsS.f k l0_1).bind fun t162 => ((laws_toRefS.f k l0_2).bind fun t165 => (some (a0_0, t162, t165)))
theorem laws_toPart.mono : ∀ a0 a1 a2 k, LeO (laws_toPart.f k a0 a1 a2) (laws_toPart.f (k + 1) a0 a1 a2) := by
  intro a0 a1 a2 k
  unfold laws_toPart.f
  repeat' first
      | (with_reducible exact laws_toInsS.mono _ _)
      | (with_reducible exact laws_toRefS.mono _ _)
      | (with_reducible exact LeO.refl _)
      | (with_reducible exact LeO.none _)
      | (with_reducible refine LeO.ite ?_ ?_)
      | (with_reducible refine LeO.bind ?_ (fun _ => ?_))
      | exact laws_toInsS.mono _ _
      | exact laws_toRefS.mono _ _
      | exact LeO.none _
      | refine LeO.ite ?_ ?_
      | refine LeO.bind ?_ (fun _ => ?_)
set_option maxHeartbeats 8000000 in
set_option maxRecDepth 100000 in
theorem laws_toPart.calls (k : Nat) (a0_0 : ByteArray) (A0_1 : Option Addr) (c0_1 : Nat) (l0_1 : List (S162)) (A0_2 : Option Addr) (c0_2 : Nat) (l0_2 : List (S159)) (r1 : ByteArray) (r2 : List (S54)) (r3 : List (S87)) (w : World) (hr0_1 : Kd.C k162 w A0_1 l0_1.length l0_1) (hc0_1 : l0_1.length ≤ c0_1) (hr0_2 : Kd.C k159 w A0_2 l0_2.length l0_2) (hc0_2 : l0_2.length ≤ c0_2) (h : laws_toPart.f k a0_0 l0_1 l0_2 = some (r1, r2, r3)) :
    Calls Try.prog 26 #[.agg #[.string a0_0, .slice A0_1 l0_1.length c0_1, .slice A0_2 l0_2.length c0_2]] w fun e w' => ∃ v1_ v2_ : Value, e = .returned (.agg #[.string r1, v1_, v2_]) ∧ Kd.R k54 54 w' w.heap.size (fun _ => True) v1_ r2 ∧ Kd.R k87 87 w' w.heap.size (fun _ => True) v2_ r3 ∧ Below w.heap.size w w' := by
  have hu39 := Try.underlying39
  have hu45 := Try.underlying45
  have HR0_1 := Aside0.mk hr0_1
  have HC0_1 := Aside0.mk hc0_1
  clear hr0_1 hc0_1
  have HR0_2 := Aside0.mk hr0_2
  have HC0_2 := Aside0.mk hc0_2
  clear hr0_2 hc0_2
  have HB := Aside0.mk (Below.refl w.heap.size w)
  have H : ((laws_toInsS.f k l0_1).bind fun t162 => ((laws_toRefS.f k l0_2).bind fun t165 => (some (a0_0, t162, t165)))) = some (r1, r2, r3) := h
  clear h
  replace H := Option.bind_eq_some_iff.mp H
  obtain ⟨t162, A20, H⟩ := H
  replace H : ((laws_toRefS.f k l0_2).bind fun t165 => (some (a0_0, t162, t165))) = some (r1, r2, r3) := H
  have A2 := Aside0.mk A20
  clear A20
  replace H := Option.bind_eq_some_iff.mp H
  obtain ⟨t165, A30, H⟩ := H
  replace H : (some (a0_0, t162, t165)) = some (r1, r2, r3) := H
  have A3 := Aside0.mk A30
  clear A30
  simp only [Option.some.injEq, Prod.mk.injEq] at H
  obtain ⟨rfl, rfl, rfl⟩ := H
  go_enter Try.func26, Try.ntmps26
  go_wp2_with (first | ((with_reducible refine gate_dst (N := 1) rfl ?_); refine box_event ?hg (N := 1) ?hd (cs := #[.string a0_0, .slice A0_1 l0_1.length c0_1, .slice A0_2 l0_2.length c0_2]) (t := 39) ?hr ?_; (case hd => rfl); (case hg => rfl); (case hr => first | (go_simp; done) | (go_simp; rfl)); intro gb159 hg w4 hbox hb; have n0_ := Aside0.mk (below_step (by repeat (first | (with_reducible first | exact HB.out | apply below_alloc | apply pw_below_drewN | apply below_drew1) | exact HB.out)) hb); have n1_ := Aside0.mk (hbox); have n2_ := Aside0.mk ((by rw [hg]; exact (below_size (by repeat (first | (with_reducible first | exact HB.out | apply below_alloc | apply pw_below_drewN | apply below_drew1) | exact HB.out))) : w.heap.size ≤ gb159)); have n3_ := Aside0.mk ((by rw [hg]; exact (below_size (by repeat (first | (with_reducible first | exact HB.out | apply below_alloc | apply pw_below_drewN | apply below_drew1) | exact HB.out))) : w.heap.size ≤ gb159)); clear HB; have HB := n0_; have BK159 := n1_; have GW159 := n2_; have GE159 := n3_; clear n0_ n1_ n2_ n3_; clear hb hbox hg) | ((with_reducible refine gate_dst (N := 2) rfl ?_); refine box_event ?hg (N := 2) ?hd (cs := #[.string (⟨#[]⟩ : ByteArray), .slice none 0 0, .slice none 0 0]) (t := 45) ?hr ?_; (case hd => rfl); (case hg => rfl); (case hr => first | (go_simp; done) | (go_simp; rfl)); intro gb160 hg w5 hbox hb; have n0_ := Aside0.mk (blk_below (g := gb159) (o := .cells #[.string a0_0, .slice A0_1 l0_1.length c0_1, .slice A0_2 l0_2.length c0_2] 39 (0, 0)) (by (with_reducible repeat (first | refine blk_drewN ?_ _ | refine blk_drew ?_ | refine blk_alloc ?_ _)); exact BK159.out) hb); have n1_ := Aside0.mk (below_step (by repeat (first | (with_reducible first | exact HB.out | apply below_alloc | apply pw_below_drewN | apply below_drew1 | refine below_set ?_ GE159.out) | exact HB.out)) hb); have n2_ := Aside0.mk (hbox); have n3_ := Aside0.mk ((by rw [hg]; exact (below_size (by repeat (first | (with_reducible first | exact HB.out | apply below_alloc | apply pw_below_drewN | apply below_drew1 | refine below_set ?_ GE159.out) | exact HB.out))) : w.heap.size ≤ gb160)); have n4_ := Aside0.mk ((by rw [hg]; exact (below_size (by repeat (first | (with_reducible first | exact HB.out | apply below_alloc | apply pw_below_drewN | apply below_drew1 | refine below_set ?_ GE159.out) | exact HB.out))) : w.heap.size ≤ gb160)); have n5_ := Aside0.mk ((by rw [hg]; exact Nat.ne_of_lt (blk_lt (g := gb159) (o := .cells #[.string a0_0, .slice A0_1 l0_1.length c0_1, .slice A0_2 l0_2.length c0_2] 39 (0, 0)) (by (with_reducible repeat (first | refine blk_drewN ?_ _ | refine blk_drew ?_ | refine blk_alloc ?_ _)); exact BK159.out)) : gb159 ≠ gb160)); have n6_ := Aside0.mk ((by rw [hg]; exact Nat.ne_of_gt (blk_lt (g := gb159) (o := .cells #[.string a0_0, .slice A0_1 l0_1.length c0_1, .slice A0_2 l0_2.length c0_2] 39 (0, 0)) (by (with_reducible repeat (first | refine blk_drewN ?_ _ | refine blk_drew ?_ | refine blk_alloc ?_ _)); exact BK159.out)) : gb160 ≠ gb159)); clear BK159; clear HB; have BK159 := n0_; have HB := n1_; have BK160 := n2_; have GW160 := n3_; have GE160 := n4_; have NB159_160 := n5_; have NB160_159 := n6_; clear n0_ n1_ n2_ n3_ n4_ n5_ n6_; clear hb hbox hg) | ((with_reducible refine gate_dst (N := 3) rfl ?_); refine box_event ?hg (N := 3) ?hd (cs := #[.string (⟨#[]⟩ : ByteArray), .slice none 0 0, .slice none 0 0]) (t := 45) ?hr ?_; (case hd => rfl); (case hg => rfl); (case hr => first | (go_simp; done) | (go_simp; rfl)); intro gb161 hg w6 hbox hb; have n0_ := Aside0.mk (blk_below (g := gb159) (o := .cells #[.string a0_0, .slice A0_1 l0_1.length c0_1, .slice A0_2 l0_2.length c0_2] 39 (0, 0)) (by (with_reducible repeat (first | refine blk_drewN ?_ _ | refine blk_drew ?_ | refine blk_alloc ?_ _)); exact BK159.out) hb); have n1_ := Aside0.mk (blk_below (g := gb160) (o := .cells #[.string (⟨#[]⟩ : ByteArray), .slice none 0 0, .slice none 0 0] 45 (0, 0)) (by (with_reducible repeat (first | refine blk_drewN ?_ _ | refine blk_drew ?_ | refine blk_alloc ?_ _)); exact BK160.out) hb); have n2_ := Aside0.mk (below_step (by repeat (first | (with_reducible first | exact HB.out | apply below_alloc | apply pw_below_drewN | apply below_drew1 | refine below_set ?_ GE159.out | refine below_set ?_ GE160.out) | exact HB.out)) hb); have n3_ := Aside0.mk (hbox); have n4_ := Aside0.mk ((by rw [hg]; exact (below_size (by repeat (first | (with_reducible first | exact HB.out | apply below_alloc | apply pw_below_drewN | apply below_drew1 | refine below_set ?_ GE159.out | refine below_set ?_ GE160.out) | exact HB.out))) : w.heap.size ≤ gb161)); have n5_ := Aside0.mk ((by rw [hg]; exact (below_size (by repeat (first | (with_reducible first | exact HB.out | apply below_alloc | apply pw_below_drewN | apply below_drew1 | refine below_set ?_ GE159.out | refine below_set ?_ GE160.out) | exact HB.out))) : w.heap.size ≤ gb161)); have n6_ := Aside0.mk ((by rw [hg]; exact Nat.ne_of_lt (blk_lt (g := gb159) (o := .cells #[.string a0_0, .slice A0_1 l0_1.length c0_1, .slice A0_2 l0_2.length c0_2] 39 (0, 0)) (by (with_reducible repeat (first | refine blk_drewN ?_ _ | refine blk_drew ?_ | refine blk_alloc ?_ _)); exact BK159.out)) : gb159 ≠ gb161)); have n7_ := Aside0.mk ((by rw [hg]; exact Nat.ne_of_gt (blk_lt (g := gb159) (o := .cells #[.string a0_0, .slice A0_1 l0_1.length c0_1, .slice A0_2 l0_2.length c0_2] 39 (0, 0)) (by (with_reducible repeat (first | refine blk_drewN ?_ _ | refine blk_drew ?_ | refine blk_alloc ?_ _)); exact BK159.out)) : gb161 ≠ gb159)); have n8_ := Aside0.mk ((by rw [hg]; exact Nat.ne_of_lt (blk_lt (g := gb160) (o := .cells #[.string (⟨#[]⟩ : ByteArray), .slice none 0 0, .slice none 0 0] 45 (0, 0)) (by (with_reducible repeat (first | refine blk_drewN ?_ _ | refine blk_drew ?_ | refine blk_alloc ?_ _)); exact BK160.out)) : gb160 ≠ gb161)); have n9_ := Aside0.mk ((by rw [hg]; exact Nat.ne_of_gt (blk_lt (g := gb160) (o := .cells #[.string (⟨#[]⟩ : ByteArray), .slice none 0 0, .slice none 0 0] 45 (0, 0)) (by (with_reducible repeat (first | refine blk_drewN ?_ _ | refine blk_drew ?_ | refine blk_alloc ?_ _)); exact BK160.out)) : gb161 ≠ gb160)); clear BK159; clear BK160; clear HB; have BK159 := n0_; have BK160 := n1_; have HB := n2_; have BK161 := n3_; have GW161 := n4_; have GE161 := n5_; have NB159_161 := n6_; have NB161_159 := n7_; have NB160_161 := n8_; have NB161_160 := n9_; clear n0_ n1_ n2_ n3_ n4_ n5_ n6_ n7_ n8_ n9_; clear hb hbox hg; have hnb7 := NB159_160.out; have hnc7 := NB160_159.out; have hnb8 := NB159_161.out; have hnc8 := NB161_159.out; have hcz9_0 : w6.cell? ⟨gb159, 0, none⟩ = some (.string a0_0) := (blk_cell BK159.out 0).trans rfl; have hcz9_1 : w6.cell? ⟨gb159, 1, none⟩ = some (.slice A0_1 l0_1.length c0_1) := (blk_cell BK159.out 1).trans rfl; have hcz9_2 : w6.cell? ⟨gb159, 2, none⟩ = some (.slice A0_2 l0_2.length c0_2) := (blk_cell BK159.out 2).trans rfl; have hfz9_0 := blk_frozen BK159.out 0; have hfz9_1 := blk_frozen BK159.out 1; have hfz9_2 := blk_frozen BK159.out 2; have hnb10 := NB161_160.out; have hnc10 := NB160_161.out; have hcz11_0 : w6.cell? ⟨gb161, 0, none⟩ = some (.string (⟨#[]⟩ : ByteArray)) := (blk_cell BK161.out 0).trans rfl; have hcz11_1 : w6.cell? ⟨gb161, 1, none⟩ = some (.slice none 0 0) := (blk_cell BK161.out 1).trans rfl; have hcz11_2 : w6.cell? ⟨gb161, 2, none⟩ = some (.slice none 0 0) := (blk_cell BK161.out 2).trans rfl; have hfz11_0 := blk_frozen BK161.out 0; have hfz11_1 := blk_frozen BK161.out 1; have hfz11_2 := blk_frozen BK161.out 2) | ((with_reducible refine gate_callee (f := 102) rfl ?_); refine goesL_ (some 9) rfl rfl Try.func102 (by kernel_rfl) rfl #[.slice A0_1 l0_1.length c0_1] rfl (by (try simp only [List.map_toArray, List.map_cons, List.map_nil]); first | done | rfl | (simp only [List.length_drop, List.length_take]; rfl)) ?_; (with_reducible refine (laws_toInsS.calls k _ _ l0_1 t162 _ ?side1 ?side2 A2.out).mono ?_); (case side1 => exact Kd.C_below HR0_1.out (by repeat (first | (with_reducible first | exact HB.out | apply below_alloc | apply pw_below_drewN | apply below_drew1 | refine below_set ?_ GE159.out | refine below_set ?_ GE160.out | refine below_set ?_ GE161.out) | exact HB.out))); (case side2 => exact HC0_1.out); rintro e w12 ⟨v163, rfl, ho0, hb⟩; refine ⟨_, rfl, ?_⟩; have n0_ := Aside0.mk (Kd.R_lower ho0 (below_size (by repeat (first | (with_reducible first | exact HB.out | apply below_alloc | apply pw_below_drewN | apply below_drew1 | refine below_set ?_ GE159.out | refine below_set ?_ GE160.out | refine below_set ?_ GE161.out) | exact HB.out)))); have n1_ := Aside0.mk (blk_below (g := gb159) (o := .cells #[.string a0_0, .slice A0_1 l0_1.length c0_1, .slice A0_2 l0_2.length c0_2] 39 (0, 0)) (by (with_reducible repeat (first | refine blk_drewN ?_ _ | refine blk_drew ?_ | refine blk_alloc ?_ _)); refine blk_far ?_ NB159_161.out _; (with_reducible repeat (first | refine blk_drewN ?_ _ | refine blk_drew ?_ | refine blk_alloc ?_ _)); exact BK159.out) hb); have n2_ := Aside0.mk (blk_below (g := gb160) (o := .cells #[.string (⟨#[]⟩ : ByteArray), .slice none 0 0, .slice none 0 0] 45 (0, 0)) (by (with_reducible repeat (first | refine blk_drewN ?_ _ | refine blk_drew ?_ | refine blk_alloc ?_ _)); refine blk_far ?_ NB160_161.out _; (with_reducible repeat (first | refine blk_drewN ?_ _ | refine blk_drew ?_ | refine blk_alloc ?_ _)); exact BK160.out) hb); have n3_ := Aside0.mk (blk_below (g := gb161) (o := .cells #[.string a0_0, .slice none 0 0, .slice none 0 0] 45 (0, 0)) (by (with_reducible repeat (first | refine blk_drewN ?_ _ | refine blk_drew ?_ | refine blk_alloc ?_ _)); refine blk_put (cs := #[.string (⟨#[]⟩ : ByteArray), .slice none 0 0, .slice none 0 0]) ?_ 0 _ rfl; (with_reducible repeat (first | refine blk_drewN ?_ _ | refine blk_drew ?_ | refine blk_alloc ?_ _)); exact BK161.out) hb); have n4_ := Aside0.mk (below_step (by repeat (first | (with_reducible first | exact HB.out | apply below_alloc | apply pw_below_drewN | apply below_drew1 | refine below_set ?_ GE159.out | refine below_set ?_ GE160.out | refine below_set ?_ GE161.out) | exact HB.out)) hb); clear BK159; clear BK160; clear BK161; clear HB; have HO164 := n0_; have BK159 := n1_; have BK160 := n2_; have BK161 := n3_; have HB := n4_; clear n0_ n1_ n2_ n3_ n4_; (try clear hb); (try clear hb2); (try clear hk); (try clear hi); (try clear ho0); obtain ⟨Ao13, co13, eo13⟩ := Kd.R_slice HO164.out; subst eo13; have hcz14_0 : w12.cell? ⟨gb161, 0, none⟩ = some (.string a0_0) := (blk_cell BK161.out 0).trans rfl; have hcz14_1 : w12.cell? ⟨gb161, 1, none⟩ = some (.slice none 0 0) := (blk_cell BK161.out 1).trans rfl; have hcz14_2 : w12.cell? ⟨gb161, 2, none⟩ = some (.slice none 0 0) := (blk_cell BK161.out 2).trans rfl; have hfz14_0 := blk_frozen BK161.out 0; have hfz14_1 := blk_frozen BK161.out 1; have hfz14_2 := blk_frozen BK161.out 2; have hcz15_0 : w12.cell? ⟨gb159, 0, none⟩ = some (.string a0_0) := (blk_cell BK159.out 0).trans rfl; have hcz15_1 : w12.cell? ⟨gb159, 1, none⟩ = some (.slice A0_1 l0_1.length c0_1) := (blk_cell BK159.out 1).trans rfl; have hcz15_2 : w12.cell? ⟨gb159, 2, none⟩ = some (.slice A0_2 l0_2.length c0_2) := (blk_cell BK159.out 2).trans rfl; have hfz15_0 := blk_frozen BK159.out 0; have hfz15_1 := blk_frozen BK159.out 1; have hfz15_2 := blk_frozen BK159.out 2) | ((with_reducible refine gate_callee (f := 103) rfl ?_); refine goesL_ (some 13) rfl rfl Try.func103 (by kernel_rfl) rfl #[.slice A0_2 l0_2.length c0_2] rfl (by (try simp only [List.map_toArray, List.map_cons, List.map_nil]); first | done | rfl | (simp only [List.length_drop, List.length_take]; rfl)) ?_; (with_reducible refine (laws_toRefS.calls k _ _ l0_2 t165 _ ?side1 ?side2 A3.out).mono ?_); (case side1 => exact Kd.C_below HR0_2.out (by repeat (first | (with_reducible first | exact HB.out | apply below_alloc | apply pw_below_drewN | apply below_drew1 | refine below_set ?_ GE159.out | refine below_set ?_ GE160.out | refine below_set ?_ GE161.out) | exact HB.out))); (case side2 => exact HC0_2.out); rintro e w16 ⟨v166, rfl, ho0, hb⟩; refine ⟨_, rfl, ?_⟩; have n0_ := Aside0.mk (Kd.R_below (by (with_reducible repeat (first | apply Kd.R_alloc | apply Kd.R_drewN | apply Kd.R_drew)); exact (Kd.R_mono (Kd.R_far (p := ⟨gb161, 1, none⟩) (Kd.R_types HO164.out BK161.out (by decide)) (fun _ hk => hk.2) (.slice Ao13 t162.length co13)) (fun _ h_ => h_.1))) hb); have n1_ := Aside0.mk (Kd.R_lower ho0 (below_size (by repeat (first | (with_reducible first | exact HB.out | apply below_alloc | apply pw_below_drewN | apply below_drew1 | refine below_set ?_ GE159.out | refine below_set ?_ GE160.out | refine below_set ?_ GE161.out) | exact HB.out)))); have n2_ := Aside0.mk (blk_below (g := gb159) (o := .cells #[.string a0_0, .slice A0_1 l0_1.length c0_1, .slice A0_2 l0_2.length c0_2] 39 (0, 0)) (by (with_reducible repeat (first | refine blk_drewN ?_ _ | refine blk_drew ?_ | refine blk_alloc ?_ _)); refine blk_far ?_ NB159_161.out _; (with_reducible repeat (first | refine blk_drewN ?_ _ | refine blk_drew ?_ | refine blk_alloc ?_ _)); exact BK159.out) hb); have n3_ := Aside0.mk (blk_below (g := gb160) (o := .cells #[.string (⟨#[]⟩ : ByteArray), .slice none 0 0, .slice none 0 0] 45 (0, 0)) (by (with_reducible repeat (first | refine blk_drewN ?_ _ | refine blk_drew ?_ | refine blk_alloc ?_ _)); refine blk_far ?_ NB160_161.out _; (with_reducible repeat (first | refine blk_drewN ?_ _ | refine blk_drew ?_ | refine blk_alloc ?_ _)); exact BK160.out) hb); have n4_ := Aside0.mk (blk_below (g := gb161) (o := .cells #[.string a0_0, .slice Ao13 t162.length co13, .slice none 0 0] 45 (0, 0)) (by (with_reducible repeat (first | refine blk_drewN ?_ _ | refine blk_drew ?_ | refine blk_alloc ?_ _)); refine blk_put (cs := #[.string a0_0, .slice none 0 0, .slice none 0 0]) ?_ 1 _ rfl; (with_reducible repeat (first | refine blk_drewN ?_ _ | refine blk_drew ?_ | refine blk_alloc ?_ _)); exact BK161.out) hb); have n5_ := Aside0.mk (below_step (by repeat (first | (with_reducible first | exact HB.out | apply below_alloc | apply pw_below_drewN | apply below_drew1 | refine below_set ?_ GE159.out | refine below_set ?_ GE160.out | refine below_set ?_ GE161.out) | exact HB.out)) hb); clear HO164; clear BK159; clear BK160; clear BK161; clear HB; have HO164 := n0_; have HO167 := n1_; have BK159 := n2_; have BK160 := n3_; have BK161 := n4_; have HB := n5_; clear n0_ n1_ n2_ n3_ n4_ n5_; (try clear hb); (try clear hb2); (try clear hk); (try clear hi); (try clear ho0); obtain ⟨Ao17, co17, eo17⟩ := Kd.R_slice HO167.out; subst eo17; have hcz18_0 : w16.cell? ⟨gb161, 0, none⟩ = some (.string a0_0) := (blk_cell BK161.out 0).trans rfl; have hcz18_1 : w16.cell? ⟨gb161, 1, none⟩ = some (.slice Ao13 t162.length co13) := (blk_cell BK161.out 1).trans rfl; have hcz18_2 : w16.cell? ⟨gb161, 2, none⟩ = some (.slice none 0 0) := (blk_cell BK161.out 2).trans rfl; have hfz18_0 := blk_frozen BK161.out 0; have hfz18_1 := blk_frozen BK161.out 1; have hfz18_2 := blk_frozen BK161.out 2; have hcz19_0 : w16.cell? ⟨gb160, 0, none⟩ = some (.string (⟨#[]⟩ : ByteArray)) := (blk_cell BK160.out 0).trans rfl; have hcz19_1 : w16.cell? ⟨gb160, 1, none⟩ = some (.slice none 0 0) := (blk_cell BK160.out 1).trans rfl; have hcz19_2 : w16.cell? ⟨gb160, 2, none⟩ = some (.slice none 0 0) := (blk_cell BK160.out 2).trans rfl; have hfz19_0 := blk_frozen BK160.out 0; have hfz19_1 := blk_frozen BK160.out 1; have hfz19_2 := blk_frozen BK160.out 2))
  refine bodyPost_ret (results_cell_row rfl _ _ gb160 45 #[.string a0_0, .slice Ao13 t162.length co13, .slice Ao17 t165.length co17] (0, 0) _ rfl (by (with_reducible repeat (first | refine blk_drewN ?_ _ | refine blk_drew ?_ | refine blk_alloc ?_ _)); refine blk_put (cs := #[.string a0_0, .slice Ao13 t162.length co13, .slice none 0 0]) ?_ 2 _ rfl; (with_reducible repeat (first | refine blk_drewN ?_ _ | refine blk_drew ?_ | refine blk_alloc ?_ _)); refine blk_put (cs := #[.string a0_0, .slice none 0 0, .slice none 0 0]) ?_ 1 _ rfl; (with_reducible repeat (first | refine blk_drewN ?_ _ | refine blk_drew ?_ | refine blk_alloc ?_ _)); refine blk_put (cs := #[.string (⟨#[]⟩ : ByteArray), .slice none 0 0, .slice none 0 0]) ?_ 0 _ rfl; (with_reducible repeat (first | refine blk_drewN ?_ _ | refine blk_drew ?_ | refine blk_alloc ?_ _)); refine blk_far ?_ NB160_161.out _; (with_reducible repeat (first | refine blk_drewN ?_ _ | refine blk_drew ?_ | refine blk_alloc ?_ _)); exact BK160.out) Try.underlying45 rfl (by kernel_rfl)) rfl ?_
  exact ⟨_, _, by first | rfl | (simp [errW_none, errW_some] <;> rfl) | (simp [*, errW_none, errW_some] <;> rfl), by (with_reducible repeat (first | apply Kd.R_alloc | apply Kd.R_drewN | apply Kd.R_drew)); exact Kd.R_mono (Kd.R_far (p := ⟨gb160, 2, none⟩) (Kd.R_far (p := ⟨gb160, 1, none⟩) (Kd.R_far (p := ⟨gb160, 0, none⟩) (Kd.R_far (p := ⟨gb161, 2, none⟩) (Kd.R_types (Kd.R_types HO164.out BK161.out (by decide)) BK160.out (by decide)) (fun _ hk => hk.1.2) (.slice Ao17 t165.length co17)) (fun _ hk => hk.2) (.string a0_0)) (fun _ hk => hk.2) (.slice Ao13 t162.length co13)) (fun _ hk => hk.2) (.slice Ao17 t165.length co17)) (fun _ hk => trivial), by (with_reducible repeat (first | apply Kd.R_alloc | apply Kd.R_drewN | apply Kd.R_drew)); exact Kd.R_mono (Kd.R_far (p := ⟨gb160, 2, none⟩) (Kd.R_far (p := ⟨gb160, 1, none⟩) (Kd.R_far (p := ⟨gb160, 0, none⟩) (Kd.R_far (p := ⟨gb161, 2, none⟩) (Kd.R_types (Kd.R_types HO167.out BK161.out (by decide)) BK160.out (by decide)) (fun _ hk => hk.1.2) (.slice Ao17 t165.length co17)) (fun _ hk => hk.2) (.string a0_0)) (fun _ hk => hk.2) (.slice Ao13 t162.length co13)) (fun _ hk => hk.2) (.slice Ao17 t165.length co17)) (fun _ hk => trivial), by repeat (first | (with_reducible first | exact HB.out | apply below_alloc | apply pw_below_drewN | apply below_drew1 | refine below_set ?_ GE159.out | refine below_set ?_ GE160.out | refine below_set ?_ GE161.out) | exact HB.out)⟩

/-! ### impl_from: function 87 -/
def impl_from.f (a0 : Int) (a1 : Int) (a2 : Int) : Option (Bool) := if a0 ≥ a1 then (some (decide (a0 ≤ a2))) else (some false)
set_option maxHeartbeats 8000000 in
set_option maxRecDepth 100000 in
theorem impl_from.calls (a0 : Int) (a1 : Int) (a2 : Int) (r : Bool) (w : World) (h : impl_from.f a0 a1 a2 = some r) :
    Calls Try.prog 87 #[.int .i64 a0, .int .i64 a1, .int .i64 a2] w fun e w' => e = .returned (.bool r) ∧ Drawn0 w w' := by
  have H : (if a0 ≥ a1 then (some (decide (a0 ≤ a2))) else (some false)) = some r := h
  clear h
  by_cases c4 : a0 ≥ a1
  · rw [if_pos c4] at H
    have c4b0 : decide (a1 ≤ a0) = true := decide_eq_true c4
    clear c4
    obtain rfl := Option.some.inj H
    go_enter Try.func87, Try.ntmps87
    go_wp2
    go_ret
    exact ⟨by first | rfl | (simp; done) | (simp [*]; done), by repeat (first | exact Drawn0.refl _ | apply Drawn0.step)⟩
  · rw [if_neg c4] at H
    have c4b0 : decide (a1 ≤ a0) = false := decide_eq_false c4
    clear c4
    obtain rfl := Option.some.inj H
    go_enter Try.func87, Try.ntmps87
    go_wp2
    go_ret
    exact ⟨by first | rfl | (simp; done) | (simp [*]; done), by repeat (first | exact Drawn0.refl _ | apply Drawn0.step)⟩

/-! ### impl_nameOk: function 104 -/
def impl_nameOk.l0 : Nat → ByteArray → Int → Int → Option (Bool)
  | 0, _, _, _ => none
  | k + 1, x0, x5, x6 => if x6 < x5 then (if 0 ≤ x6 then (if x6 < (x0.size : Int) then (if (bt x0 x6) < 97 then (some false) else (if (bt x0 x6) > 122 then (some false) else (impl_nameOk.l0 k x0 x5 (wrap64 (x6 + 1))))) else (none)) else (none)) else ((impl_from.f (x0.size : Int) 1 8).bind fun t168 => (some t168))
def impl_nameOk.f (k : Nat) (a0 : ByteArray) : Option (Bool) := impl_nameOk.l0 k a0 (a0.size : Int) 0
theorem impl_nameOk.mono_l : ∀ k, (∀ y0 y1 y2, LeO (impl_nameOk.l0 k y0 y1 y2) (impl_nameOk.l0 (k + 1) y0 y1 y2))
  | 0 => fun _ _ _ r h => by simp [impl_nameOk.l0] at h
  | k + 1 => by
    have ih0 := impl_nameOk.mono_l k
    · intro y0 y1 y2
      unfold impl_nameOk.l0
      repeat' first
      | (with_reducible exact ih0 _ _ _)
      | (with_reducible exact LeO.refl _)
      | (with_reducible exact LeO.none _)
      | (with_reducible refine LeO.ite ?_ ?_)
      | (with_reducible refine LeO.bind ?_ (fun _ => ?_))
      | exact ih0 _ _ _
      | exact LeO.none _
      | refine LeO.ite ?_ ?_
      | refine LeO.bind ?_ (fun _ => ?_)
theorem impl_nameOk.mono : ∀ a0 k, LeO (impl_nameOk.f k a0) (impl_nameOk.f (k + 1) a0) := by
  intro a0 k
  have ih0 := impl_nameOk.mono_l k
  unfold impl_nameOk.f
  repeat' first
      | (with_reducible exact ih0 _ _ _)
      | (with_reducible exact LeO.refl _)
      | (with_reducible exact LeO.none _)
      | (with_reducible refine LeO.ite ?_ ?_)
      | (with_reducible refine LeO.bind ?_ (fun _ => ?_))
      | exact ih0 _ _ _
      | exact LeO.none _
      | refine LeO.ite ?_ ?_
      | refine LeO.bind ?_ (fun _ => ?_)
set_option maxHeartbeats 8000000 in
set_option maxRecDepth 100000 in
theorem impl_nameOk.calls (k : Nat) (a0 : ByteArray) (r : Bool) (w : World) (h : impl_nameOk.f k a0 = some r) :
    Calls Try.prog 104 #[.string a0] w fun e w' => e = .returned (.bool r) ∧ Drawn0 w w' := by
  have H : (impl_nameOk.l0 k a0 (a0.size : Int) 0) = some r := h
  clear h
  have H' := Aside0.mk H
  clear H
  go_enter Try.func104, Try.ntmps104
  go_wp2
  go_loopg [6] k (fun kq v6 w' => ∃ (x6_1 : Int), v6 = .int .i64 x6_1 ∧ Aside0 (impl_nameOk.l0 kq a0 (a0.size : Int) x6_1 = some r) ∧ Aside0 (kq ≤ k) ∧ Drawn0 w w')
  case atStart => exact ⟨(0), (by first | rfl | (simp; done) | (simp [*]; done)), H', ⟨Nat.le_refl _⟩, by repeat (first | exact Drawn0.refl _ | apply Drawn0.step)⟩
  case round =>
    clear H'
    try clear c1
    obtain ⟨x6_1, rfl, HA, HK1, ⟨m1, rfl⟩⟩ := hrel
    cases gk with
    | zero => exact absurd HA.out (by simp [impl_nameOk.l0])
    | succ k1 =>
      have H := HA.out
      clear HA
      simp only [impl_nameOk.l0] at H
      by_cases c2 : x6_1 < (a0.size : Int)
      · rw [if_pos c2] at H
        have c2b0 : decide (x6_1 < (a0.size : Int)) = true := decide_eq_true c2
        clear c2
        by_cases c3 : 0 ≤ x6_1
        · rw [if_pos c3] at H
          have c3b0 : decide (0 ≤ x6_1) = true := decide_eq_true c3
          clear c3
          by_cases c4 : x6_1 < (a0.size : Int)
          · rw [if_pos c4] at H
            have c4b0 : decide (x6_1 < (a0.size : Int)) = true := decide_eq_true c4
            clear c4
            by_cases c6 : (bt a0 x6_1) < 97
            · rw [if_pos c6] at H
              have c6b0 : decide ((bt a0 x6_1) < 97) = true := decide_eq_true c6
              clear c6
              obtain rfl := Option.some.inj H
              have p5 : 0 ≤ (x6_1 : Int) := of_decide_eq_true (by first | (with_reducible assumption) | assumption)
              have q5 : x6_1 < (a0.size : Int) := of_decide_eq_true (by first | (with_reducible assumption) | assumption)
              have hx5 := bt_at a0 x6_1
              replace p5 := eq_true p5
              replace q5 := eq_true q5
              go_wp2
              go_ret
              exact ⟨by first | rfl | (simp; done) | (simp [*]; done), by repeat (first | exact Drawn0.refl _ | apply Drawn0.step)⟩
            · rw [if_neg c6] at H
              have c6b0 : decide ((bt a0 x6_1) < 97) = false := decide_eq_false c6
              clear c6
              by_cases c8 : (bt a0 x6_1) > 122
              · rw [if_pos c8] at H
                have c8b0 : decide (122 < (bt a0 x6_1)) = true := decide_eq_true c8
                clear c8
                obtain rfl := Option.some.inj H
                have p5 : 0 ≤ (x6_1 : Int) := of_decide_eq_true (by first | (with_reducible assumption) | assumption)
                have q5 : x6_1 < (a0.size : Int) := of_decide_eq_true (by first | (with_reducible assumption) | assumption)
                have hx5 := bt_at a0 x6_1
                replace p5 := eq_true p5
                replace q5 := eq_true q5
                have p7 : 0 ≤ (x6_1 : Int) := of_decide_eq_true (by first | (with_reducible assumption) | assumption)
                have q7 : x6_1 < (a0.size : Int) := of_decide_eq_true (by first | (with_reducible assumption) | assumption)
                have hx7 := bt_at a0 x6_1
                replace p7 := eq_true p7
                replace q7 := eq_true q7
                go_wp2
                go_ret
                exact ⟨by first | rfl | (simp; done) | (simp [*]; done), by repeat (first | exact Drawn0.refl _ | apply Drawn0.step)⟩
              · rw [if_neg c8] at H
                have c8b0 : decide (122 < (bt a0 x6_1)) = false := decide_eq_false c8
                clear c8
                have H' := Aside0.mk H
                clear H
                have p5 : 0 ≤ (x6_1 : Int) := of_decide_eq_true (by first | (with_reducible assumption) | assumption)
                have q5 : x6_1 < (a0.size : Int) := of_decide_eq_true (by first | (with_reducible assumption) | assumption)
                have hx5 := bt_at a0 x6_1
                replace p5 := eq_true p5
                replace q5 := eq_true q5
                have p7 : 0 ≤ (x6_1 : Int) := of_decide_eq_true (by first | (with_reducible assumption) | assumption)
                have q7 : x6_1 < (a0.size : Int) := of_decide_eq_true (by first | (with_reducible assumption) | assumption)
                have hx7 := bt_at a0 x6_1
                replace p7 := eq_true p7
                replace q7 := eq_true q7
                go_wp2
                go_roundg k1
                case measure => have := HK1.out; omega
                case rel => exact ⟨(wrap64 (x6_1 + 1)), (by first | rfl | (simp; done) | (simp [*]; done)), H', ⟨by have := HK1.out; omega⟩, by repeat (first | exact Drawn0.refl _ | apply Drawn0.step)⟩
          · rw [if_neg c4] at H
            exact absurd H (by simp)
        · rw [if_neg c3] at H
          exact absurd H (by simp)
      · rw [if_neg c2] at H
        have c2b0 : decide (x6_1 < (a0.size : Int)) = false := decide_eq_false c2
        clear c2
        replace H := Option.bind_eq_some_iff.mp H
        obtain ⟨t168, A90, H⟩ := H
        replace H : (some t168) = some r := H
        have A9 := Aside0.mk A90
        clear A90
        obtain rfl := Option.some.inj H
        go_wp2_with (first | ((with_reducible refine gate_callee (f := 87) rfl ?_); refine goesL_ (some 22) rfl rfl Try.func87 (by kernel_rfl) rfl #[.int .i64 (a0.size : Int), .int .i64 1, .int .i64 8] rfl (by (try simp only [List.map_toArray, List.map_cons, List.map_nil]); first | done | rfl | (simp only [List.length_drop, List.length_take]; rfl)) ?_; (with_reducible refine (impl_from.calls (a0.size : Int) 1 8 t168 _ A9.out).mono ?_); rintro e w' ⟨rfl, ⟨nd, rfl⟩⟩; refine ⟨_, rfl, ?_⟩))
        go_ret
        exact ⟨by first | rfl | (simp; done) | (simp [*]; done), by repeat (first | exact Drawn0.refl _ | apply Drawn0.step)⟩

-- NOT PRINTED: function 162 (impl_Ins_162)

-- NOT PRINTED: function 105 (impl_Ins_105)

/-! ### impl_form: function 163 -/
mutual
def impl_form.j0 : Nat → Int → Bool → Option (ByteArray × Bool)
  | 0, _, _ => none
  | k + 1, x4, x7 => if x7 = true then (some ((⟨#[82, 65, 66]⟩ : ByteArray), true)) else (if x4 = 3 then (impl_form.j1 k x4 (x4 == 3)) else (impl_form.j1 k x4 (x4 == 4)))
def impl_form.j1 : Nat → Int → Bool → Option (ByteArray × Bool)
  | 0, _, _ => none
  | k + 1, x4, x10 => if x10 = true then (some ((⟨#[82, 65, 78]⟩ : ByteArray), true)) else (if x4 = 5 then (some ((⟨#[65, 66, 78]⟩ : ByteArray), true)) else (if x4 = 6 then (some ((⟨#[82, 65, 66, 78]⟩ : ByteArray), true)) else (if x4 = 7 then (some ((⟨#[65, 78]⟩ : ByteArray), true)) else (if x4 = 8 then (some ((⟨#[78]⟩ : ByteArray), true)) else (if x4 = 9 then (some ((⟨#[]⟩ : ByteArray), true)) else (some ((⟨#[]⟩ : ByteArray), false)))))))
end
def impl_form.f (k : Nat) (a0 : Int) : Option (ByteArray × Bool) := if a0 = 1 then (some ((⟨#[82, 78]⟩ : ByteArray), true)) else (if a0 = 2 then (impl_form.j0 k a0 (a0 == 2)) else (impl_form.j0 k a0 (a0 == 10)))
theorem impl_form.mono_l : ∀ k, (∀ y0 y1, LeO (impl_form.j0 k y0 y1) (impl_form.j0 (k + 1) y0 y1)) ∧ (∀ y0 y1, LeO (impl_form.j1 k y0 y1) (impl_form.j1 (k + 1) y0 y1))
  | 0 => ⟨fun _ _ r h => by simp [impl_form.j0] at h, fun _ _ r h => by simp [impl_form.j1] at h⟩
  | k + 1 => by
    obtain ⟨ih0, ih1⟩ := impl_form.mono_l k
    refine ⟨?_, ?_⟩
    · intro y0 y1
      unfold impl_form.j0
      repeat' first
      | (with_reducible exact ih0 _ _)
      | (with_reducible exact ih1 _ _)
      | (with_reducible exact LeO.refl _)
      | (with_reducible exact LeO.none _)
      | (with_reducible refine LeO.ite ?_ ?_)
      | (with_reducible refine LeO.bind ?_ (fun _ => ?_))
      | exact ih0 _ _
      | exact ih1 _ _
      | exact LeO.none _
      | refine LeO.ite ?_ ?_
      | refine LeO.bind ?_ (fun _ => ?_)
    · intro y0 y1
      unfold impl_form.j1
      repeat' first
      | (with_reducible exact ih0 _ _)
      | (with_reducible exact ih1 _ _)
      | (with_reducible exact LeO.refl _)
      | (with_reducible exact LeO.none _)
      | (with_reducible refine LeO.ite ?_ ?_)
      | (with_reducible refine LeO.bind ?_ (fun _ => ?_))
      | exact ih0 _ _
      | exact ih1 _ _
      | exact LeO.none _
      | refine LeO.ite ?_ ?_
      | refine LeO.bind ?_ (fun _ => ?_)
theorem impl_form.mono : ∀ a0 k, LeO (impl_form.f k a0) (impl_form.f (k + 1) a0) := by
  intro a0 k
  obtain ⟨ih0, ih1⟩ := impl_form.mono_l k
  unfold impl_form.f
  repeat' first
      | (with_reducible exact ih0 _ _)
      | (with_reducible exact ih1 _ _)
      | (with_reducible exact LeO.refl _)
      | (with_reducible exact LeO.none _)
      | (with_reducible refine LeO.ite ?_ ?_)
      | (with_reducible refine LeO.bind ?_ (fun _ => ?_))
      | exact ih0 _ _
      | exact ih1 _ _
      | exact LeO.none _
      | refine LeO.ite ?_ ?_
      | refine LeO.bind ?_ (fun _ => ?_)
set_option maxHeartbeats 8000000 in
set_option maxRecDepth 100000 in
theorem impl_form.calls (k : Nat) (a0 : Int) (r1 : ByteArray) (r2 : Bool) (w : World) (h : impl_form.f k a0 = some (r1, r2)) :
    Calls Try.prog 163 #[.int .i64 a0] w fun e w' => e = .returned (.tuple #[.string r1, .bool r2]) ∧ Drawn0 w w' := by
  have H : (if a0 = 1 then (some ((⟨#[82, 78]⟩ : ByteArray), true)) else (if a0 = 2 then (impl_form.j0 k a0 (a0 == 2)) else (impl_form.j0 k a0 (a0 == 10)))) = some (r1, r2) := h
  clear h
  by_cases c2 : a0 = 1
  · rw [if_pos c2] at H
    have c2b0 : (a0 == 1) = true := beq_iff_eq.mpr c2
    have c2b1 : (a0 != 1) = false := bne_eq_false_iff_eq.mpr c2
    clear c2
    simp only [Option.some.injEq, Prod.mk.injEq] at H
    obtain ⟨rfl, rfl⟩ := H
    go_enter Try.func163, Try.ntmps163
    go_wp2
    go_ret2
    exact ⟨by first | rfl | (simp; done) | (simp [*]; done), by repeat (first | exact Drawn0.refl _ | apply Drawn0.step)⟩
  · rw [if_neg c2] at H
    have c2b0 : (a0 == 1) = false := beq_eq_false_iff_ne.mpr c2
    have c2b1 : (a0 != 1) = true := bne_iff_ne.mpr c2
    have HC3 := Aside0.mk H
    clear H
    go_enter Try.func163, Try.ntmps163
    go_upto_if 7 with (fail)
    go_cut [7] (fun v7 wc => ∃ (kq : Nat) (x7_2 : Bool), v7 = .bool x7_2 ∧ Aside0 (impl_form.j0 kq a0 x7_2 = some (r1, r2)) ∧ Aside0 (kq ≤ k) ∧ Drawn0 w wc)
    case first =>
      have H := HC3.out
      clear HC3
      by_cases c4 : a0 = 2
      · rw [if_pos c4] at H
        have c4b0 : (a0 == 2) = true := beq_iff_eq.mpr c4
        have c4b1 : (a0 != 2) = false := bne_eq_false_iff_eq.mpr c4
        clear c4
        (first | rw [c4b0] | (simp only [i64_w, i32_w]; rw [c4b0]) | skip)
        have H' := Aside0.mk H
        clear H
        go_wp2
        go_meet
        case rel => exact ⟨_, ((a0 == 2)), (by first | rfl | (simp; done) | (simp [*]; done)), H', ⟨by first | omega | exact Nat.le_refl _⟩, by repeat (first | exact Drawn0.refl _ | apply Drawn0.step)⟩
      · rw [if_neg c4] at H
        have c4b0 : (a0 == 2) = false := beq_eq_false_iff_ne.mpr c4
        have c4b1 : (a0 != 2) = true := bne_iff_ne.mpr c4
        (first | rw [c4b0] | (simp only [i64_w, i32_w]; rw [c4b0]) | skip)
        have H' := Aside0.mk H
        clear H
        go_wp2
        go_meet
        case rel => exact ⟨_, ((a0 == 10)), (by first | rfl | (simp; done) | (simp [*]; done)), H', ⟨by first | omega | exact Nat.le_refl _⟩, by repeat (first | exact Drawn0.refl _ | apply Drawn0.step)⟩
    case rest =>
      clear HC3
      try clear c1
      try clear c2
      try clear c2b0
      try clear c2b1
      try clear p2
      try clear c4
      try clear c4b0
      try clear c4b1
      obtain ⟨kq, x7_2, rfl, HA, HJ2, ⟨mc2, rfl⟩⟩ := hcut
      cases kq with
      | zero => exact absurd HA.out (by simp [impl_form.j0])
      | succ kj2 =>
        have H := HA.out
        clear HA
        simp only [impl_form.j0] at H
        by_cases c5 : x7_2 = true
        · subst c5
          have H1 : (some ((⟨#[82, 65, 66]⟩ : ByteArray), true)) = some (r1, r2) := by rw [if_pos rfl] at H; exact H
          clear H
          have H := H1
          clear H1
          simp only [Option.some.injEq, Prod.mk.injEq] at H
          obtain ⟨rfl, rfl⟩ := H
          go_wp2
          go_ret2
          exact ⟨by first | rfl | (simp; done) | (simp [*]; done), by repeat (first | exact Drawn0.refl _ | apply Drawn0.step)⟩
        · replace c5 := Bool.eq_false_iff.mpr c5
          subst c5
          have H1 : (if a0 = 3 then (impl_form.j1 kj2 a0 (a0 == 3)) else (impl_form.j1 kj2 a0 (a0 == 4))) = some (r1, r2) := by rw [if_neg (show ¬ (false = true) by decide)] at H; exact H
          clear H
          have H := H1
          clear H1
          have HC6 := Aside0.mk H
          clear H
          go_upto_if 10 with (fail)
          go_cut [10] (fun v10 wc => ∃ (kq : Nat) (x10_5 : Bool), v10 = .bool x10_5 ∧ Aside0 (impl_form.j1 kq a0 x10_5 = some (r1, r2)) ∧ Aside0 (kq ≤ kj2) ∧ Drawn0 w wc)
          case first =>
            have H := HC6.out
            clear HC6
            by_cases c7 : a0 = 3
            · rw [if_pos c7] at H
              have c7b0 : (a0 == 3) = true := beq_iff_eq.mpr c7
              have c7b1 : (a0 != 3) = false := bne_eq_false_iff_eq.mpr c7
              clear c7
              (first | rw [c7b0] | (simp only [i64_w, i32_w]; rw [c7b0]) | skip)
              have H' := Aside0.mk H
              clear H
              go_wp2
              go_meet
              case rel => exact ⟨_, ((a0 == 3)), (by first | rfl | (simp; done) | (simp [*]; done)), H', ⟨by have := HJ2.out; first | omega | exact Nat.le_refl _⟩, by repeat (first | exact Drawn0.refl _ | apply Drawn0.step)⟩
            · rw [if_neg c7] at H
              have c7b0 : (a0 == 3) = false := beq_eq_false_iff_ne.mpr c7
              have c7b1 : (a0 != 3) = true := bne_iff_ne.mpr c7
              (first | rw [c7b0] | (simp only [i64_w, i32_w]; rw [c7b0]) | skip)
              have H' := Aside0.mk H
              clear H
              go_wp2
              go_meet
              case rel => exact ⟨_, ((a0 == 4)), (by first | rfl | (simp; done) | (simp [*]; done)), H', ⟨by have := HJ2.out; first | omega | exact Nat.le_refl _⟩, by repeat (first | exact Drawn0.refl _ | apply Drawn0.step)⟩
          case rest =>
            clear HC6
            try clear c1
            try clear c2
            try clear c2b0
            try clear c2b1
            try clear p2
            try clear c4
            try clear c4b0
            try clear c4b1
            try clear c5
            try clear c7
            try clear c7b0
            try clear c7b1
            try clear p2
            obtain ⟨kq, x10_5, rfl, HA, HJ5, ⟨mc5, rfl⟩⟩ := hcut
            cases kq with
            | zero => exact absurd HA.out (by simp [impl_form.j1])
            | succ kj5 =>
              have H := HA.out
              clear HA
              simp only [impl_form.j1] at H
              by_cases c8 : x10_5 = true
              · subst c8
                have H1 : (some ((⟨#[82, 65, 78]⟩ : ByteArray), true)) = some (r1, r2) := by rw [if_pos rfl] at H; exact H
                clear H
                have H := H1
                clear H1
                simp only [Option.some.injEq, Prod.mk.injEq] at H
                obtain ⟨rfl, rfl⟩ := H
                go_wp2
                go_ret2
                exact ⟨by first | rfl | (simp; done) | (simp [*]; done), by repeat (first | exact Drawn0.refl _ | apply Drawn0.step)⟩
              · replace c8 := Bool.eq_false_iff.mpr c8
                subst c8
                have H1 : (if a0 = 5 then (some ((⟨#[65, 66, 78]⟩ : ByteArray), true)) else (if a0 = 6 then (some ((⟨#[82, 65, 66, 78]⟩ : ByteArray), true)) else (if a0 = 7 then (some ((⟨#[65, 78]⟩ : ByteArray), true)) else (if a0 = 8 then (some ((⟨#[78]⟩ : ByteArray), true)) else (if a0 = 9 then (some ((⟨#[]⟩ : ByteArray), true)) else (some ((⟨#[]⟩ : ByteArray), false))))))) = some (r1, r2) := by rw [if_neg (show ¬ (false = true) by decide)] at H; exact H
                clear H
                have H := H1
                clear H1
                by_cases c9 : a0 = 5
                · rw [if_pos c9] at H
                  have c9b0 : (a0 == 5) = true := beq_iff_eq.mpr c9
                  have c9b1 : (a0 != 5) = false := bne_eq_false_iff_eq.mpr c9
                  clear c9
                  simp only [Option.some.injEq, Prod.mk.injEq] at H
                  obtain ⟨rfl, rfl⟩ := H
                  go_wp2
                  go_ret2
                  exact ⟨by first | rfl | (simp; done) | (simp [*]; done), by repeat (first | exact Drawn0.refl _ | apply Drawn0.step)⟩
                · rw [if_neg c9] at H
                  have c9b0 : (a0 == 5) = false := beq_eq_false_iff_ne.mpr c9
                  have c9b1 : (a0 != 5) = true := bne_iff_ne.mpr c9
                  by_cases c10 : a0 = 6
                  · rw [if_pos c10] at H
                    have c10b0 : (a0 == 6) = true := beq_iff_eq.mpr c10
                    have c10b1 : (a0 != 6) = false := bne_eq_false_iff_eq.mpr c10
                    clear c10
                    simp only [Option.some.injEq, Prod.mk.injEq] at H
                    obtain ⟨rfl, rfl⟩ := H
                    go_wp2
                    go_ret2
                    exact ⟨by first | rfl | (simp; done) | (simp [*]; done), by repeat (first | exact Drawn0.refl _ | apply Drawn0.step)⟩
                  · rw [if_neg c10] at H
                    have c10b0 : (a0 == 6) = false := beq_eq_false_iff_ne.mpr c10
                    have c10b1 : (a0 != 6) = true := bne_iff_ne.mpr c10
                    by_cases c11 : a0 = 7
                    · rw [if_pos c11] at H
                      have c11b0 : (a0 == 7) = true := beq_iff_eq.mpr c11
                      have c11b1 : (a0 != 7) = false := bne_eq_false_iff_eq.mpr c11
                      clear c11
                      simp only [Option.some.injEq, Prod.mk.injEq] at H
                      obtain ⟨rfl, rfl⟩ := H
                      go_wp2
                      go_ret2
                      exact ⟨by first | rfl | (simp; done) | (simp [*]; done), by repeat (first | exact Drawn0.refl _ | apply Drawn0.step)⟩
                    · rw [if_neg c11] at H
                      have c11b0 : (a0 == 7) = false := beq_eq_false_iff_ne.mpr c11
                      have c11b1 : (a0 != 7) = true := bne_iff_ne.mpr c11
                      by_cases c12 : a0 = 8
                      · rw [if_pos c12] at H
                        have c12b0 : (a0 == 8) = true := beq_iff_eq.mpr c12
                        have c12b1 : (a0 != 8) = false := bne_eq_false_iff_eq.mpr c12
                        clear c12
                        simp only [Option.some.injEq, Prod.mk.injEq] at H
                        obtain ⟨rfl, rfl⟩ := H
                        go_wp2
                        go_ret2
                        exact ⟨by first | rfl | (simp; done) | (simp [*]; done), by repeat (first | exact Drawn0.refl _ | apply Drawn0.step)⟩
                      · rw [if_neg c12] at H
                        have c12b0 : (a0 == 8) = false := beq_eq_false_iff_ne.mpr c12
                        have c12b1 : (a0 != 8) = true := bne_iff_ne.mpr c12
                        by_cases c13 : a0 = 9
                        · rw [if_pos c13] at H
                          have c13b0 : (a0 == 9) = true := beq_iff_eq.mpr c13
                          have c13b1 : (a0 != 9) = false := bne_eq_false_iff_eq.mpr c13
                          clear c13
                          simp only [Option.some.injEq, Prod.mk.injEq] at H
                          obtain ⟨rfl, rfl⟩ := H
                          go_wp2
                          go_ret2
                          exact ⟨by first | rfl | (simp; done) | (simp [*]; done), by repeat (first | exact Drawn0.refl _ | apply Drawn0.step)⟩
                        · rw [if_neg c13] at H
                          have c13b0 : (a0 == 9) = false := beq_eq_false_iff_ne.mpr c13
                          have c13b1 : (a0 != 9) = true := bne_iff_ne.mpr c13
                          simp only [Option.some.injEq, Prod.mk.injEq] at H
                          obtain ⟨rfl, rfl⟩ := H
                          go_wp2
                          go_ret2
                          exact ⟨by first | rfl | (simp; done) | (simp [*]; done), by repeat (first | exact Drawn0.refl _ | apply Drawn0.step)⟩

-- NOT PRINTED: function 164 (impl_Ins_place)

/-! ### impl_InsOk: function 107 -/
def placeOff (c : Int) : Nat := if c = 82 then 1 else if c = 65 then 2 else if c = 66 then 3 else 4
set_option maxHeartbeats 400000 in
set_option maxRecDepth 100000 in
theorem place_calls (g : Nat) (c : Int) (w : World) :
    Calls Try.prog 164 #[.pointer (some ⟨g, 0, none⟩), .int .u8 c] w fun e w' => e = .returned (.pointer (some ⟨g, placeOff c, none⟩)) ∧ w' = w := by
  by_cases c1 : c = 82
  · have e1 : (c == 82) = true := beq_iff_eq.mpr c1
    have ho : placeOff c = 1 := by simp [placeOff, c1]
    have Ho := Aside0.mk ho
    clear c1 ho
    go_enter Try.func164, Try.ntmps164
    go_wp2
    go_ret
    exact ⟨congrArg (fun o => Ending.returned (Value.pointer (some ⟨g, o, none⟩))) Ho.out.symm, rfl⟩
  · have e1 : (c == 82) = false := beq_eq_false_iff_ne.mpr c1
    by_cases c2 : c = 65
    · have e2 : (c == 65) = true := beq_iff_eq.mpr c2
      have ho : placeOff c = 2 := by simp [placeOff, c2]
      have Ho := Aside0.mk ho
      clear c1 c2 ho
      go_enter Try.func164, Try.ntmps164
      go_wp2
      go_ret
      exact ⟨congrArg (fun o => Ending.returned (Value.pointer (some ⟨g, o, none⟩))) Ho.out.symm, rfl⟩
    · have e2 : (c == 65) = false := beq_eq_false_iff_ne.mpr c2
      by_cases c3 : c = 66
      · have e3 : (c == 66) = true := beq_iff_eq.mpr c3
        have ho : placeOff c = 3 := by simp [placeOff, c3]
        have Ho := Aside0.mk ho
        clear c1 c2 c3 ho
        go_enter Try.func164, Try.ntmps164
        go_wp2
        go_ret
        exact ⟨congrArg (fun o => Ending.returned (Value.pointer (some ⟨g, o, none⟩))) Ho.out.symm, rfl⟩
      · have e3 : (c == 66) = false := beq_eq_false_iff_ne.mpr c3
        have ho : placeOff c = 4 := by simp [placeOff, c1, c2, c3]
        have Ho := Aside0.mk ho
        clear c1 c2 c3 ho
        go_enter Try.func164, Try.ntmps164
        go_wp2
        go_ret
        exact ⟨congrArg (fun o => Ending.returned (Value.pointer (some ⟨g, o, none⟩))) Ho.out.symm, rfl⟩

/-- The five numbers, one of them put. -/
def insPut (c : Int) (x s : Int × Int × Int × Int × Int) : Int × Int × Int × Int × Int :=
  if c = 82 then (s.1, x.2.1, s.2.2.1, s.2.2.2.1, s.2.2.2.2) else if c = 65 then (s.1, s.2.1, x.2.2.1, s.2.2.2.1, s.2.2.2.2) else if c = 66 then (s.1, s.2.1, s.2.2.1, x.2.2.2.1, s.2.2.2.2) else (s.1, s.2.1, s.2.2.1, s.2.2.2.1, x.2.2.2.2)
def insCells (s : Int × Int × Int × Int × Int) : Array Value := #[.int .i64 s.1, .int .i64 s.2.1, .int .i64 s.2.2.1, .int .i64 s.2.2.2.1, .int .i64 s.2.2.2.2]
def insPick (x : Int × Int × Int × Int × Int) (c : Int) : Int := if c = 82 then x.2.1 else if c = 65 then x.2.2.1 else if c = 66 then x.2.2.2.1 else x.2.2.2.2
theorem insCells_get (x : Int × Int × Int × Int × Int) (c : Int) : (insCells x)[placeOff c]? = some (.int .i64 (insPick x c)) := by
  unfold insCells placeOff insPick; split <;> (try split) <;> (try split) <;> rfl
theorem insCells_put (x s : Int × Int × Int × Int × Int) (c : Int) : (insCells s).setIfInBounds (placeOff c) (.int .i64 (insPick x c)) = insCells (insPut c x s) := by
  unfold insCells placeOff insPick insPut; split <;> (try split) <;> (try split) <;> rfl
def insFold (s : ByteArray) (x : Int × Int × Int × Int × Int) (n : Nat) : Int × Int × Int × Int × Int := (List.range n).foldl (fun a (i : Nat) => insPut (bt s (i : Int)) x a) (x.1, 0, 0, 0, 0)

theorem insFold_succ (s : ByteArray) (x : Int × Int × Int × Int × Int) (n : Nat) : insFold s x (n + 1) = insPut (bt s (n : Int)) x (insFold s x n) := by
  unfold insFold; rw [List.range_succ, List.foldl_append]; rfl
set_option maxHeartbeats 4000000 in
set_option maxRecDepth 100000 in
theorem insOk_calls (k : Nat) (x0 x1 x2 x3 x4 : Int) (s : ByteArray) (ok : Bool) (w : World) (hs : s.size ≤ 4) (hf : impl_form.f k x0 = some (s, ok)) (y0 y1 y2 y3 y4 : Int) (hy : insFold s (x0, x1, x2, x3, x4) s.size = (y0, y1, y2, y3, y4)) (b1 b2 b3 b4 : Bool) (h1 : impl_from.f x1 0 3 = some b1) (h2 : impl_from.f x2 0 3 = some b2) (h3 : impl_from.f x3 0 3 = some b3) (h4 : impl_from.f x4 0 63 = some b4) :
    Calls Try.prog 107 #[.agg #[.int .i64 x0, .int .i64 x1, .int .i64 x2, .int .i64 x3, .int .i64 x4]] w fun e w' => e = .returned (.bool (ok && ((y0 == x0 && (y1 == x1 && (y2 == x2 && (y3 == x3 && (y4 == x4))))) && (b1 && (b2 && (b3 && b4)))))) ∧ Below w.heap.size w w' := by
  have hu54 := Try.underlying53
  have HF := Aside0.mk hf
  have HY := Aside0.mk hy
  have F1 := Aside0.mk h1
  have F2 := Aside0.mk h2
  have F3 := Aside0.mk h3
  have F4 := Aside0.mk h4
  clear hf hy h1 h2 h3 h4
  have HB := Aside0.mk (Below.refl w.heap.size w)
  go_enter Try.func107, Try.ntmps107
  go_wp2_with (first
    | ((with_reducible refine gate_dst (N := 1) rfl ?_); refine box_event ?hg (N := 1) ?hd (cs := #[.int .i64 x0, .int .i64 x1, .int .i64 x2, .int .i64 x3, .int .i64 x4]) (t := 54) ?hr ?_; (case hd => rfl); (case hg => rfl); (case hr => first | (go_simp; done) | (go_simp; rfl)); intro g1 hg w1 hbox hb; have BK1 := Aside0.mk hbox; have HB1 := Aside0.mk (below_step HB.out hb); have GE1 := Aside0.mk (by rw [hg]; exact Nat.le_refl _ : w.heap.size ≤ g1); clear hb hbox hg; have hcz0 : w1.cell? ⟨g1, 0, none⟩ = some (.int .i64 x0) := (blk_cell BK1.out 0).trans rfl)
    | ((with_reducible refine gate_dst (N := 5) rfl ?_); refine box_event ?hg (N := 5) ?hd (cs := #[.int .i64 0, .int .i64 0, .int .i64 0, .int .i64 0, .int .i64 0]) (t := 54) ?hr ?_; (case hd => rfl); (case hg => rfl); (case hr => first | (go_simp; done) | (go_simp; rfl)); intro g2 hg w2 hbox hb; have hne := Aside0.mk (by rw [hg]; exact Nat.ne_of_lt (blk_lt (blk_drewN BK1.out _)) : g1 ≠ g2); have BK2 := Aside0.mk hbox; have HB2 := Aside0.mk (below_step (by repeat (first | (with_reducible first | exact HB1.out | apply pw_below_drewN | apply below_drew1) | exact HB1.out)) hb); have BK1' := Aside0.mk (blk_below (by (with_reducible repeat (first | refine blk_drewN ?_ _ | refine blk_drew ?_ )); exact BK1.out) hb); have GE2 := Aside0.mk (by rw [hg]; exact below_size (by repeat (first | (with_reducible first | exact HB1.out | apply pw_below_drewN | apply below_drew1) | exact HB1.out)) : w.heap.size ≤ g2); clear hb hbox hg BK1 HB1 HB; have hcy0 := (blk_cell BK2.out 0).trans rfl; have hcy1 := (blk_cell BK2.out 1).trans rfl; have hcy2 := (blk_cell BK2.out 2).trans rfl; have hcy3 := (blk_cell BK2.out 3).trans rfl; have hcy4 := (blk_cell BK2.out 4).trans rfl; have hfy0 := blk_frozen BK2.out 0; have hfy1 := blk_frozen BK2.out 1; have hfy2 := blk_frozen BK2.out 2; have hfy3 := blk_frozen BK2.out 3; have hfy4 := blk_frozen BK2.out 4)
    | (go_at_call 163; refine (impl_form.calls k x0 s ok _ HF.out).mono ?_; rintro e w' ⟨rfl, ⟨nd, rfl⟩⟩))
  clear hcz0 hcy0 hcy1 hcy2 hcy3 hcy4 hfy0 hfy1 hfy2 hfy3 hfy4
  go_loopw [18] (fun v wr => ∃ i : Nat, Aside0 (i ≤ s.size) ∧ v = .int .i64 i ∧ Aside0 (wr.heap[g1]? = some (.cells (insCells (x0, x1, x2, x3, x4)) 54 (0, 0))) ∧ Aside0 (wr.heap[g2]? = some (.cells (insCells (insFold s (x0, x1, x2, x3, x4) i)) 54 (0, 0))) ∧ Aside0 (Below w.heap.size w wr)) (fun v _ => s.size - (intOf v).toNat)
  case atStart =>
    refine ⟨0, ⟨Nat.zero_le _⟩, rfl, ⟨?_⟩, ⟨?_⟩, ⟨?_⟩⟩
    · refine blk_far (blk_far (blk_far (blk_far (blk_far BK1'.out ?_ _) ?_ _) ?_ _) ?_ _) ?_ _ <;> exact hne.out
    · exact blk_set (blk_set (blk_set (blk_set (blk_set BK2.out 0 _) 1 _) 2 _) 3 _) 4 _
    · exact below_set (below_set (below_set (below_set (below_set HB2.out GE2.out) GE2.out) GE2.out) GE2.out) GE2.out
  case round =>
    obtain ⟨i, hi, rfl, BK1, BK2, HB⟩ := hrel
    by_cases hlt : i < s.size
    · have hbt : bt s (i : Int) = ((s[i].toNat : Nat) : Int) := (bt_at s (i : Int) (by simpa using hlt)).symm
      have HBT := Aside0.mk hbt
      clear hbt
      have hld : wr.cell? ⟨g1, placeOff ((s[i].toNat : Nat) : Int), none⟩ = some (.int .i64 (insPick (x0, x1, x2, x3, x4) ((s[i].toNat : Nat) : Int))) := (blk_cell BK1.out _).trans (insCells_get _ _)
      have hst : wr.cell? ⟨g2, placeOff ((s[i].toNat : Nat) : Int), none⟩ = some (.int .i64 (insPick (insFold s (x0, x1, x2, x3, x4) i) ((s[i].toNat : Nat) : Int))) := (blk_cell BK2.out _).trans (insCells_get _ _)
      have hfz := blk_frozen BK2.out (placeOff ((s[i].toNat : Nat) : Int))
      have H1 := Aside0.mk hst
      have H2 := Aside0.mk hfz
      clear hst hfz
      go_wp2_with fail
      go_still_tail 11, (by kernel_rfl)
      still_call (place_calls _ _ _)
      repeat still_step
      still_call (place_calls _ _ _)
      repeat still_step
      refine wpStill_nil ?_
      change wpList _ _ _ _ _ wr.drew
      have hst := H1.out
      have hfz := H2.out
      go_wp2
      go_roundw
      case rel =>
        refine ⟨i + 1, ⟨hlt⟩, by go_num, ⟨?_⟩, ⟨?_⟩, ⟨?_⟩⟩
        · exact blk_far (blk_drew BK1.out) hne.out _
        · rw [insFold_succ, HBT.out, ← insCells_put]; exact blk_set (blk_drew BK2.out) _ _
        · exact below_set (below_drew1 HB.out) GE2.out
      case measure => simp [intOf]; omega
    · have HN := Aside0.mk hlt
      have hi' : i = s.size := by have := hi.out; omega
      subst hi'
      have BK2' : wr.heap[g2]? = some (.cells #[.int .i64 y0, .int .i64 y1, .int .i64 y2, .int .i64 y3, .int .i64 y4] 54 (0, 0)) := by have h_ := BK2.out; rw [HY.out] at h_; exact h_
      clear BK2
      have hcx0 : wr.cell? ⟨g1, 0, none⟩ = some (.int .i64 x0) := (blk_cell BK1.out 0).trans rfl
      have hcx1 : wr.cell? ⟨g1, 1, none⟩ = some (.int .i64 x1) := (blk_cell BK1.out 1).trans rfl
      have hcx2 : wr.cell? ⟨g1, 2, none⟩ = some (.int .i64 x2) := (blk_cell BK1.out 2).trans rfl
      have hcx3 : wr.cell? ⟨g1, 3, none⟩ = some (.int .i64 x3) := (blk_cell BK1.out 3).trans rfl
      have hcx4 : wr.cell? ⟨g1, 4, none⟩ = some (.int .i64 x4) := (blk_cell BK1.out 4).trans rfl
      have hcy0 : wr.cell? ⟨g2, 0, none⟩ = some (.int .i64 y0) := (blk_cell BK2' 0).trans rfl
      have hcy1 : wr.cell? ⟨g2, 1, none⟩ = some (.int .i64 y1) := (blk_cell BK2' 1).trans rfl
      have hcy2 : wr.cell? ⟨g2, 2, none⟩ = some (.int .i64 y2) := (blk_cell BK2' 2).trans rfl
      have hcy3 : wr.cell? ⟨g2, 3, none⟩ = some (.int .i64 y3) := (blk_cell BK2' 3).trans rfl
      have hcy4 : wr.cell? ⟨g2, 4, none⟩ = some (.int .i64 y4) := (blk_cell BK2' 4).trans rfl
      clear BK1 BK2'
      cases ok
      · go_wp2_with (first | (go_at_call 87; with_reducible refine (impl_from.calls x1 0 3 _ _ F1.out).mono ?_; rintro e w' ⟨rfl, ⟨nd, rfl⟩⟩) | (go_at_call 87; with_reducible refine (impl_from.calls x2 0 3 _ _ F2.out).mono ?_; rintro e w' ⟨rfl, ⟨nd, rfl⟩⟩) | (go_at_call 87; with_reducible refine (impl_from.calls x3 0 3 _ _ F3.out).mono ?_; rintro e w' ⟨rfl, ⟨nd, rfl⟩⟩) | (go_at_call 87; with_reducible refine (impl_from.calls x4 0 63 _ _ F4.out).mono ?_; rintro e w' ⟨rfl, ⟨nd, rfl⟩⟩))
        go_ret
        exact ⟨rfl, by repeat (first | exact HB.out | apply pw_below_drewN | apply below_drew1)⟩
      generalize hE : (y0 == x0 && (y1 == x1 && (y2 == x2 && (y3 == x3 && (y4 == x4))))) = E
      cases E
      · go_wp2_with (first | (go_at_call 87; with_reducible refine (impl_from.calls x1 0 3 _ _ F1.out).mono ?_; rintro e w' ⟨rfl, ⟨nd, rfl⟩⟩) | (go_at_call 87; with_reducible refine (impl_from.calls x2 0 3 _ _ F2.out).mono ?_; rintro e w' ⟨rfl, ⟨nd, rfl⟩⟩) | (go_at_call 87; with_reducible refine (impl_from.calls x3 0 3 _ _ F3.out).mono ?_; rintro e w' ⟨rfl, ⟨nd, rfl⟩⟩) | (go_at_call 87; with_reducible refine (impl_from.calls x4 0 63 _ _ F4.out).mono ?_; rintro e w' ⟨rfl, ⟨nd, rfl⟩⟩))
        go_ret
        exact ⟨by rw [hE]; rfl, by repeat (first | exact HB.out | apply pw_below_drewN | apply below_drew1)⟩
      cases b1
      · go_wp2_with (first | (go_at_call 87; with_reducible refine (impl_from.calls x1 0 3 _ _ F1.out).mono ?_; rintro e w' ⟨rfl, ⟨nd, rfl⟩⟩) | (go_at_call 87; with_reducible refine (impl_from.calls x2 0 3 _ _ F2.out).mono ?_; rintro e w' ⟨rfl, ⟨nd, rfl⟩⟩) | (go_at_call 87; with_reducible refine (impl_from.calls x3 0 3 _ _ F3.out).mono ?_; rintro e w' ⟨rfl, ⟨nd, rfl⟩⟩) | (go_at_call 87; with_reducible refine (impl_from.calls x4 0 63 _ _ F4.out).mono ?_; rintro e w' ⟨rfl, ⟨nd, rfl⟩⟩))
        go_ret
        exact ⟨by rw [hE]; rfl, by repeat (first | exact HB.out | apply pw_below_drewN | apply below_drew1)⟩
      cases b2
      · go_wp2_with (first | (go_at_call 87; with_reducible refine (impl_from.calls x1 0 3 _ _ F1.out).mono ?_; rintro e w' ⟨rfl, ⟨nd, rfl⟩⟩) | (go_at_call 87; with_reducible refine (impl_from.calls x2 0 3 _ _ F2.out).mono ?_; rintro e w' ⟨rfl, ⟨nd, rfl⟩⟩) | (go_at_call 87; with_reducible refine (impl_from.calls x3 0 3 _ _ F3.out).mono ?_; rintro e w' ⟨rfl, ⟨nd, rfl⟩⟩) | (go_at_call 87; with_reducible refine (impl_from.calls x4 0 63 _ _ F4.out).mono ?_; rintro e w' ⟨rfl, ⟨nd, rfl⟩⟩))
        go_ret
        exact ⟨by rw [hE]; rfl, by repeat (first | exact HB.out | apply pw_below_drewN | apply below_drew1)⟩
      cases b3
      · go_wp2_with (first | (go_at_call 87; with_reducible refine (impl_from.calls x1 0 3 _ _ F1.out).mono ?_; rintro e w' ⟨rfl, ⟨nd, rfl⟩⟩) | (go_at_call 87; with_reducible refine (impl_from.calls x2 0 3 _ _ F2.out).mono ?_; rintro e w' ⟨rfl, ⟨nd, rfl⟩⟩) | (go_at_call 87; with_reducible refine (impl_from.calls x3 0 3 _ _ F3.out).mono ?_; rintro e w' ⟨rfl, ⟨nd, rfl⟩⟩) | (go_at_call 87; with_reducible refine (impl_from.calls x4 0 63 _ _ F4.out).mono ?_; rintro e w' ⟨rfl, ⟨nd, rfl⟩⟩))
        go_ret
        exact ⟨by rw [hE]; rfl, by repeat (first | exact HB.out | apply pw_below_drewN | apply below_drew1)⟩
      go_wp2_with (first | (go_at_call 87; with_reducible refine (impl_from.calls x1 0 3 _ _ F1.out).mono ?_; rintro e w' ⟨rfl, ⟨nd, rfl⟩⟩) | (go_at_call 87; with_reducible refine (impl_from.calls x2 0 3 _ _ F2.out).mono ?_; rintro e w' ⟨rfl, ⟨nd, rfl⟩⟩) | (go_at_call 87; with_reducible refine (impl_from.calls x3 0 3 _ _ F3.out).mono ?_; rintro e w' ⟨rfl, ⟨nd, rfl⟩⟩) | (go_at_call 87; with_reducible refine (impl_from.calls x4 0 63 _ _ F4.out).mono ?_; rintro e w' ⟨rfl, ⟨nd, rfl⟩⟩))
      go_ret
      exact ⟨by rw [hE]; rfl, by repeat (first | exact HB.out | apply pw_below_drewN | apply below_drew1)⟩
/-- Is it an Ins: what an Op does not have is 0; the others in range. -/
def insOkB (o r a b n : Int) : Bool :=
  (if o = 1 then decide (a = 0) && decide (b = 0) else if o = 2 then decide (n = 0) else if o = 3 then decide (b = 0) else if o = 4 then decide (b = 0) else if o = 5 then decide (r = 0) else if o = 6 then true
   else if o = 7 then decide (r = 0) && decide (b = 0) else if o = 8 then decide (r = 0) && (decide (a = 0) && decide (b = 0)) else if o = 9 then decide (r = 0) && (decide (a = 0) && (decide (b = 0) && decide (n = 0))) else if o = 10 then decide (n = 0) else false)
  && (decide (0 ≤ r ∧ r ≤ 3) && (decide (0 ≤ a ∧ a ≤ 3) && (decide (0 ≤ b ∧ b ≤ 3) && decide (0 ≤ n ∧ n ≤ 63))))
def impl_InsOk.f (a0_0 a0_1 a0_2 a0_3 a0_4 : Int) : Option Bool := some (insOkB a0_0 a0_1 a0_2 a0_3 a0_4)
theorem insFrom (x lo hi : Int) : impl_from.f x lo hi = some (decide (lo ≤ x ∧ x ≤ hi)) := by
  unfold impl_from.f
  by_cases h : x ≥ lo
  · rw [if_pos h]; have h' : lo ≤ x := h; simp [h']
  · rw [if_neg h]; have h' : ¬ lo ≤ x := h; simp [h']
theorem insBeq (x y : Int) : (x == y) = decide (y = x) := by
  by_cases h : x = y
  · subst h; simp
  · have h' : ¬ y = x := fun e => h e.symm
    simp [h, h']
theorem insForm (x0 x1 x2 x3 x4 : Int) : ∃ (s : ByteArray) (ok : Bool) (y0 y1 y2 y3 y4 : Int), s.size ≤ 4 ∧ impl_form.f 3 x0 = some (s, ok) ∧ insFold s (x0, x1, x2, x3, x4) s.size = (y0, y1, y2, y3, y4) ∧
    (ok && ((y0 == x0 && (y1 == x1 && (y2 == x2 && (y3 == x3 && (y4 == x4))))) && (decide (0 ≤ x1 ∧ x1 ≤ 3) && (decide (0 ≤ x2 ∧ x2 ≤ 3) && (decide (0 ≤ x3 ∧ x3 ≤ 3) && decide (0 ≤ x4 ∧ x4 ≤ 63)))))) = insOkB x0 x1 x2 x3 x4 := by
  by_cases h1 : x0 = 1
  · subst h1; exact ⟨⟨#[82, 78]⟩, true, 1, x1, 0, 0, x4, by decide, rfl, rfl, by simp [insOkB, insBeq, Bool.and_assoc]⟩
  by_cases h2 : x0 = 2
  · subst h2; exact ⟨⟨#[82, 65, 66]⟩, true, 2, x1, x2, x3, 0, by decide, rfl, rfl, by simp [insOkB, insBeq, Bool.and_assoc]⟩
  by_cases h3 : x0 = 3
  · subst h3; exact ⟨⟨#[82, 65, 78]⟩, true, 3, x1, x2, 0, x4, by decide, rfl, rfl, by simp [insOkB, insBeq, Bool.and_assoc]⟩
  by_cases h4 : x0 = 4
  · subst h4; exact ⟨⟨#[82, 65, 78]⟩, true, 4, x1, x2, 0, x4, by decide, rfl, rfl, by simp [insOkB, insBeq, Bool.and_assoc]⟩
  by_cases h5 : x0 = 5
  · subst h5; exact ⟨⟨#[65, 66, 78]⟩, true, 5, 0, x2, x3, x4, by decide, rfl, rfl, by simp [insOkB, insBeq, Bool.and_assoc]⟩
  by_cases h6 : x0 = 6
  · subst h6; exact ⟨⟨#[82, 65, 66, 78]⟩, true, 6, x1, x2, x3, x4, by decide, rfl, rfl, by simp [insOkB, insBeq, Bool.and_assoc]⟩
  by_cases h7 : x0 = 7
  · subst h7; exact ⟨⟨#[65, 78]⟩, true, 7, 0, x2, 0, x4, by decide, rfl, rfl, by simp [insOkB, insBeq, Bool.and_assoc]⟩
  by_cases h8 : x0 = 8
  · subst h8; exact ⟨⟨#[78]⟩, true, 8, 0, 0, 0, x4, by decide, rfl, rfl, by simp [insOkB, insBeq, Bool.and_assoc]⟩
  by_cases h9 : x0 = 9
  · subst h9; exact ⟨⟨#[]⟩, true, 9, 0, 0, 0, 0, by decide, rfl, rfl, by simp [insOkB, insBeq, Bool.and_assoc]⟩
  by_cases h10 : x0 = 10
  · subst h10; exact ⟨⟨#[82, 65, 66]⟩, true, 10, x1, x2, x3, 0, by decide, rfl, rfl, by simp [insOkB, insBeq, Bool.and_assoc]⟩
  · exact ⟨⟨#[]⟩, false, x0, 0, 0, 0, 0, by decide, by simp [impl_form.f, impl_form.j0, impl_form.j1, h1, h2, h3, h4, h5, h6, h7, h8, h9, h10], rfl, by simp [insOkB, h1, h2, h3, h4, h5, h6, h7, h8, h9, h10]⟩
theorem impl_InsOk.calls (a0_0 : Int) (a0_1 : Int) (a0_2 : Int) (a0_3 : Int) (a0_4 : Int) (r : Bool) (w : World) (h : impl_InsOk.f a0_0 a0_1 a0_2 a0_3 a0_4 = some r) :
    Calls Try.prog 107 #[.agg #[.int .i64 a0_0, .int .i64 a0_1, .int .i64 a0_2, .int .i64 a0_3, .int .i64 a0_4]] w fun e w' => e = .returned (.bool r) ∧ Below w.heap.size w w' := by
  obtain ⟨s, ok, y0, y1, y2, y3, y4, hs, hf, hy, hb⟩ := insForm a0_0 a0_1 a0_2 a0_3 a0_4
  obtain rfl := Option.some.inj h
  rw [← hb]
  exact insOk_calls 3 _ _ _ _ _ s ok w hs hf y0 y1 y2 y3 y4 hy _ _ _ _ (insFrom _ _ _) (insFrom _ _ _) (insFrom _ _ _) (insFrom _ _ _)

/-! ### impl_PartOk_1: function 106 -/
def impl_PartOk_1.f (a0_0 : Int) (a0_1 : Int) (a0_2 : Int) (a0_3 : Int) (a0_4 : Int) : Option (Bool) := (impl_InsOk.f a0_0 a0_1 a0_2 a0_3 a0_4).bind fun t170 => (some (!t170))
set_option maxHeartbeats 8000000 in
set_option maxRecDepth 100000 in
theorem impl_PartOk_1.calls (a0_0 : Int) (a0_1 : Int) (a0_2 : Int) (a0_3 : Int) (a0_4 : Int) (r : Bool) (w : World) (h : impl_PartOk_1.f a0_0 a0_1 a0_2 a0_3 a0_4 = some r) :
    Calls Try.prog 106 #[.agg #[.int .i64 a0_0, .int .i64 a0_1, .int .i64 a0_2, .int .i64 a0_3, .int .i64 a0_4]] w fun e w' => e = .returned (.bool r) ∧ Below w.heap.size w w' := by
  have hu54 := Try.underlying54
  have HB := Aside0.mk (Below.refl w.heap.size w)
  have H : ((impl_InsOk.f a0_0 a0_1 a0_2 a0_3 a0_4).bind fun t170 => (some (!t170))) = some r := h
  clear h
  replace H := Option.bind_eq_some_iff.mp H
  obtain ⟨t170, A20, H⟩ := H
  replace H : (some (!t170)) = some r := H
  have A2 := Aside0.mk A20
  clear A20
  obtain rfl := Option.some.inj H
  go_enter Try.func106, Try.ntmps106
  go_wp2_with (first | ((with_reducible refine gate_dst (N := 1) rfl ?_); refine box_event ?hg (N := 1) ?hd (cs := #[.int .i64 a0_0, .int .i64 a0_1, .int .i64 a0_2, .int .i64 a0_3, .int .i64 a0_4]) (t := 54) ?hr ?_; (case hd => rfl); (case hg => rfl); (case hr => first | (go_simp; done) | (go_simp; rfl)); intro gb169 hg w3 hbox hb; have n0_ := Aside0.mk (below_step (by repeat (first | (with_reducible first | exact HB.out | apply below_alloc | apply pw_below_drewN | apply below_drew1) | exact HB.out)) hb); have n1_ := Aside0.mk (hbox); have n2_ := Aside0.mk ((by rw [hg]; exact (below_size (by repeat (first | (with_reducible first | exact HB.out | apply below_alloc | apply pw_below_drewN | apply below_drew1) | exact HB.out))) : w.heap.size ≤ gb169)); have n3_ := Aside0.mk ((by rw [hg]; exact (below_size (by repeat (first | (with_reducible first | exact HB.out | apply below_alloc | apply pw_below_drewN | apply below_drew1) | exact HB.out))) : w.heap.size ≤ gb169)); clear HB; have HB := n0_; have BK169 := n1_; have GW169 := n2_; have GE169 := n3_; clear n0_ n1_ n2_ n3_; clear hb hbox hg; have hcz4_0 : w3.cell? ⟨gb169, 0, none⟩ = some (.int .i64 a0_0) := (blk_cell BK169.out 0).trans rfl; have hcz4_1 : w3.cell? ⟨gb169, 1, none⟩ = some (.int .i64 a0_1) := (blk_cell BK169.out 1).trans rfl; have hcz4_2 : w3.cell? ⟨gb169, 2, none⟩ = some (.int .i64 a0_2) := (blk_cell BK169.out 2).trans rfl; have hcz4_3 : w3.cell? ⟨gb169, 3, none⟩ = some (.int .i64 a0_3) := (blk_cell BK169.out 3).trans rfl; have hcz4_4 : w3.cell? ⟨gb169, 4, none⟩ = some (.int .i64 a0_4) := (blk_cell BK169.out 4).trans rfl; have hfz4_0 := blk_frozen BK169.out 0; have hfz4_1 := blk_frozen BK169.out 1; have hfz4_2 := blk_frozen BK169.out 2; have hfz4_3 := blk_frozen BK169.out 3; have hfz4_4 := blk_frozen BK169.out 4) | ((with_reducible refine gate_callee (f := 107) rfl ?_); refine goesL_ (some 4) rfl rfl Try.func107 (by kernel_rfl) rfl #[.agg #[.int .i64 a0_0, .int .i64 a0_1, .int .i64 a0_2, .int .i64 a0_3, .int .i64 a0_4]] rfl (by (try simp only [List.map_toArray, List.map_cons, List.map_nil]); first | done | rfl | (simp only [List.length_drop, List.length_take]; rfl)) ?_; (with_reducible refine (impl_InsOk.calls a0_0 a0_1 a0_2 a0_3 a0_4 t170 _ A2.out).mono ?_); rintro e w5 ⟨rfl, hb⟩; refine ⟨_, rfl, ?_⟩; have n0_ := Aside0.mk (blk_below (g := gb169) (o := .cells #[.int .i64 a0_0, .int .i64 a0_1, .int .i64 a0_2, .int .i64 a0_3, .int .i64 a0_4] 54 (0, 0)) (by (with_reducible repeat (first | refine blk_drewN ?_ _ | refine blk_drew ?_ | refine blk_alloc ?_ _)); exact BK169.out) hb); have n1_ := Aside0.mk (below_step (by repeat (first | (with_reducible first | exact HB.out | apply below_alloc | apply pw_below_drewN | apply below_drew1 | refine below_set ?_ GE169.out) | exact HB.out)) hb); clear BK169; clear HB; have BK169 := n0_; have HB := n1_; clear n0_ n1_; (try clear hb); (try clear hb2); (try clear hk); (try clear hi)))
  go_ret
  exact ⟨by first | rfl | (simp [errW_none, errW_some] <;> rfl) | (simp [*, errW_none, errW_some] <;> rfl), by repeat (first | (with_reducible first | exact HB.out | apply below_alloc | apply pw_below_drewN | apply below_drew1 | refine below_set ?_ GE169.out) | exact HB.out)⟩

-- NOT PRINTED: function 182 (impl_Ref_182)

-- NOT PRINTED: function 165 (impl_Ref_165)

-- NOT PRINTED: function 166 (impl_isRef_1)

end Go.Proofs.Ytddncenhddiemaa.PFnExactPartOk
