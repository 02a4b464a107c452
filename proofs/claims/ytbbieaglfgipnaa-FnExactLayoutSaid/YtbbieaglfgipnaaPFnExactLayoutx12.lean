-- made by wip/tools/myprint.py out of the seat's translation
import Derived.Test.YtbbieaglfgipnaaPFnExactLayoutx0
import Derived.Test.YtbbieaglfgipnaaPFnExactLayoutx2
import Derived.Test.YtbbieaglfgipnaaPFnExactLayoutx5
import Derived.Test.YtbbieaglfgipnaaPFnExactLayoutx9
import Derived.Test.YtbbieaglfgipnaaPFnExactLayoutx11
namespace Go.Proofs.Ytbbieaglfgipnaa.PFnExactLayout
open Go.RowKit Go.Proofs.YtbbieaglfgipnaaW.PrintWords Go.Proofs.YtbbieaglfgipnaaW.PrintLast Go.Proofs.YtbbieaglfgipnaaW.PrintMore
attribute [local go_sem] max2_int min2_int max_two min_two max_three min_three max_four min_four   -- for this text's walks alone
set_option linter.unusedVariables false
set_option linter.unusedSimpArgs false

/-! ### laws_markPartS: function 49 -/
def laws_markPartS.l0 : Nat → List S107 → Int → Int → Option (Int × List S107)
  | 0, _, _, _ => none
  | k + 1, x0, x1, x5 => if x5 < (x0.length : Int) then (if 0 ≤ x5 then ((laws_markText.f k x1).bind fun t => ((laws_markInsS.f k ((rd_T107 x0 x5).f1) (wrap64 (x1 + 1))).bind fun b => ((laws_markRefS.f k ((rd_T107 x0 x5).f2) b.1).bind fun c => laws_markPartS.l0 k (x0.set (x5 : Int).toNat ⟨t, b.2, c.2⟩) c.1 (wrap64 (x5 + 1))))) else none) else some (x1, x0)
def laws_markPartS.f (k : Nat) (l0 : List S107) (a1 : Int) : Option (Int × List S107) := laws_markPartS.l0 k l0 a1 0
theorem laws_markPartS.mono_l : ∀ k, (∀ y0 y1 y2, LeO (laws_markPartS.l0 k y0 y1 y2) (laws_markPartS.l0 (k + 1) y0 y1 y2))
  | 0 => fun _ _ _ r h => by simp [laws_markPartS.l0] at h
  | k + 1 => by
    have ih0 := laws_markPartS.mono_l k
    intro y0 y1 y2
    unfold laws_markPartS.l0
    repeat' first
      | (with_reducible exact ih0 _ _ _)
      | (with_reducible exact laws_markText.mono _ _)
      | (with_reducible exact laws_markInsS.mono _ _ _)
      | (with_reducible exact laws_markRefS.mono _ _ _)
      | (with_reducible exact LeO.refl _)
      | (with_reducible exact LeO.none _)
      | (with_reducible refine LeO.ite ?_ ?_)
      | (with_reducible refine LeO.bind ?_ (fun _ => ?_))
      | exact ih0 _ _ _
      | exact LeO.none _
      | refine LeO.ite ?_ ?_
      | refine LeO.bind ?_ (fun _ => ?_)
theorem laws_markPartS.mono : ∀ a0 a1 k, LeO (laws_markPartS.f k a0 a1) (laws_markPartS.f (k + 1) a0 a1) := fun a0 a1 k => laws_markPartS.mono_l k _ _ _
/-- Rows of other types lie apart. -/
theorem apart_types {α β : Type} {d1 : Kd α} {d2 : Kd β} {e1 e2 b : Nat} {o1 o2 : Nat → Prop} {W : World} {v1 v2 : Value} {xs : List α} {ys : List β} (h1 : d1.R e1 W b o1 v1 xs) (h2 : d2.R e2 W b o2 v2 ys) (E1 : d1.E = []) (E2 : d2.E = []) (hne : e1 ≠ e2) (k : Nat) (k1 : some k = v1.ownBlock) (k2 : some k = v2.ownBlock) : False := by
  obtain ⟨_, _, _, q1, m1, c1, x1⟩ := (Kd.R_bound h1).1 k k1.symm
  obtain ⟨_, _, _, q2, m2, c2, x2⟩ := (Kd.R_bound h2).1 k k2.symm
  rw [E1] at m1; rw [E2] at m2
  have y1 := List.mem_singleton.1 m1
  have y2 := List.mem_singleton.1 m2
  rw [x1] at x2; simp at x2
  exact hne (y1.symm.trans (x2.2.trans y2))
/-- What a call leaves, whose blocks are new. -/
theorem kept_none {w w' : World} (h : Below w.heap.size w w') : Kept w w' (fun _ => False) := ⟨h.size, fun k hk _ => h.block k hk⟩
set_option maxHeartbeats 4000000 in
set_option maxRecDepth 100000 in
theorem laws_markPartS.calls (k : Nat) (P0_ : Nat → Prop) (u9000_ : Value) (l0 : List S107) (a1 : Int) (r1 : Int) (r2 : List S107) (w0 w : World) (hB : Below w0.heap.size w0 w) (ho0 : Kd.S k107 107 w w0.heap.size P0_ u9000_ l0) (h : laws_markPartS.f k l0 a1 = some (r1, r2)) :
    Calls Try.prog 49 #[u9000_, .int .i64 a1] w fun e w' => e = .returned (.int .i64 r1) ∧ Kd.S k107 107 w' w0.heap.size P0_ u9000_ r2 ∧ Below w0.heap.size w0 w' ∧ Kept w w' (fun k_ => P0_ k_) := by
  have H0 := Aside0.mk (show laws_markPartS.l0 k l0 a1 0 = some (r1, r2) from h)
  have HS := Aside0.mk ho0
  have HB := Aside0.mk hB
  have HW := Aside0.mk hB.size
  have hn9 : l0.length ≤ 9223372036854775807 := (by obtain ⟨A, c, _, _, hC⟩ := Kd.S_reads ho0; exact hC.2.1)
  have HL := Aside0.mk hn9
  clear h hB hn9
  rcases Nat.eq_zero_or_pos l0.length with hz | hp
  · obtain rfl := List.eq_nil_of_length_eq_zero hz
    obtain ⟨A, c, rfl⟩ := Kd.S_slice ho0
    clear ho0 hz
    have hr : r1 = a1 ∧ r2 = [] := by
      have h := H0.out
      cases k with
      | zero => simp [laws_markPartS.l0] at h
      | succ k => simp [laws_markPartS.l0] at h; exact ⟨h.1.symm, h.2⟩
    obtain ⟨rfl, rfl⟩ := hr
    go_enter Try.func49, Try.ntmps49
    go_wp2
    go_loopg [1, 5] 1 (fun kq v1 v5 w' => v1 = .int .i64 r1 ∧ v5 = .int .i64 0 ∧ w' = w)
    case atStart => exact ⟨rfl, rfl, rfl⟩
    case round =>
      obtain ⟨rfl, rfl, rfl⟩ := hrel
      go_wp2
      go_ret
      exact ⟨rfl, HS.out, HB.out, Kept.refl _ _⟩
  · obtain ⟨g, cap, rfl, hg1, hg2, _⟩ := Kd.S_form ho0 hp
    have HG := Aside0.mk hg1
    have hPg : P0_ g := (Kd.S_R ho0).1 g rfl
    have HPG := Aside0.mk hPg
    clear ho0 hp hPg hg1 hg2
    go_enter Try.func49, Try.ntmps49
    go_wp2
    go_loopg [1, 5] k (fun kq v1 v5 w' => ∃ (x0 : List S107) (x1 x5 : Int), v1 = .int .i64 x1 ∧ v5 = .int .i64 x5 ∧ Aside0 (laws_markPartS.l0 kq x0 x1 x5 = some (r1, r2)) ∧ Aside0 (x0.length = l0.length) ∧ Aside0 (Kd.S k107 107 w' w0.heap.size P0_ (.slice (some ⟨g, 0, none⟩) l0.length cap) x0) ∧ Aside0 (Below w0.heap.size w0 w') ∧ Aside0 (Kept w w' P0_))
    case atStart => exact ⟨l0, a1, 0, rfl, rfl, ⟨H0.out⟩, ⟨rfl⟩, ⟨HS.out⟩, ⟨HB.out⟩, ⟨Kept.refl _ _⟩⟩
    case round =>
      clear HS HB H0
      obtain ⟨x0, x1, x5, rfl, rfl, H0, HX, HS, HB, HK⟩ := hrel
      cases gk with
      | zero => exact absurd H0.out (by simp [laws_markPartS.l0])
      | succ gk =>
      have H := H0.out
      simp only [laws_markPartS.l0] at H
      clear H0
      by_cases c1 : x5 < (l0.length : Int)
      rotate_left
      · rw [if_neg (by rw [HX.out]; exact c1)] at H
        obtain ⟨rfl, rfl⟩ : x1 = r1 ∧ x0 = r2 := by simpa using H
        have d0 : decide (x5 < (l0.length : Int)) = false := decide_eq_false c1
        clear c1 H
        go_wp2
        go_ret
        exact ⟨rfl, HS.out, HB.out, HK.out⟩
      rw [if_pos (by rw [HX.out]; exact c1)] at H
      by_cases c2 : 0 ≤ x5
      rotate_left
      · rw [if_neg c2] at H; exact absurd H (by simp)
      rw [if_pos c2] at H
      obtain ⟨t, ht, H⟩ := Option.bind_eq_some_iff.1 H
      obtain ⟨⟨b1, b2⟩, hm, H⟩ := Option.bind_eq_some_iff.1 H
      obtain ⟨⟨d1, d2⟩, hn, H⟩ := Option.bind_eq_some_iff.1 H
      dsimp only at H hn
      have HT := Aside0.mk ht
      have HM := Aside0.mk hm
      have HN := Aside0.mk hn
      have HH := Aside0.mk H
      have d0 : decide (x5 < (l0.length : Int)) = true := decide_eq_true c1
      have p1 : (0 ≤ x5) = True := eq_true c2
      have p2 : (x5 < (l0.length : Int)) = True := eq_true c1
      obtain ⟨oki, c, hcl, hMM, hcc, hfr, hoki, hHH⟩ := Kd.S_elem HS.out z107 x5 c2 c1
      obtain ⟨v1, v2, hce, hR1, hR2⟩ := k107_openM hMM
      have hx0 : wr.cell? ⟨g, x5.toNat * 3, none⟩ = some (.string (rd_T107 x0 x5).f0) := hcc 0 _ (by rw [hce]; rfl)
      have hx1 : wr.cell? ⟨g, x5.toNat * 3 + 1, none⟩ = some v1 := hcc 1 _ (by rw [hce]; rfl)
      have hx2 : wr.cell? ⟨g, x5.toNat * 3 + 2, none⟩ = some v2 := hcc 2 _ (by rw [hce]; rfl)
      have hf0 : wr.frozen? ⟨g, x5.toNat * 3, none⟩ = false := hfr 0
      have HDJ := Aside0.mk (apart_types hR1 hR2 rfl rfl (by decide))
      have HO1 := Aside0.mk (fun k (e : some k = v1.ownBlock) => hR1.1 k e.symm)
      have HO2 := Aside0.mk (fun k (e : some k = v2.ownBlock) => hR2.1 k e.symm)
      have HR1 := Aside0.mk (Kd.R_tight rfl hR1)
      have HR2 := Aside0.mk (Kd.R_tight rfl hR2)
      have HHH := Aside0.mk hHH
      have HOK := Aside0.mk hoki
      have HCE := Aside0.mk hce
      have HIN := Aside0.mk c2
      have HIL := Aside0.mk c1
      clear hR1 hR2 hHH hoki hce hcl hMM hcc hfr c1 c2 ht hm hn H
      go_wp2_with (first | (go_at_call 95; (refine (laws_markText.calls gk x1 t _ HT.out).mono ?_); rintro e w8 ⟨rfl, hb8⟩; have HK8 := Aside0.mk (kept_none hb8); have k0 := cell_kept hx0 HK8.out (fun h => h); have k1 := cell_kept hx1 HK8.out (fun h => h); have k2 := cell_kept hx2 HK8.out (fun h => h); have hge : w8.heap[g]? = wr.heap[g]? := HK8.out.2 g (World.block_lt_of_cell? wr _ hx0) (fun h => h); have f0 : w8.frozen? ⟨g, x5.toNat * 3, none⟩ = false := (by have := hf0; simpa [World.frozen?, hge] using this); have HB8 := Aside0.mk (below_step HB.out hb8); have HP1 := Aside0.mk (Kd.R_below HR1.out hb8); have HP2 := Aside0.mk (Kd.R_below HR2.out hb8); have HS8 := Aside0.mk (Kd.H_seg (Kd.H_kept HHH.out HK8.out (fun k _ _ h => h)) HIN.out HIL.out (seg := [.string t]) (j := 0) (by show 0 + 1 ≤ 3; omega) (by intro q hq; rcases List.mem_cons.1 hq with rfl | hq; rfl; cases hq)).1; clear hb8 hge hx0 hx1 hx2 hf0) | ((with_reducible refine gate_store (t := 9) (p := 17) rfl ?_); refine store_event (t := 9) (p := 17) (v := ?vo) (w1 := (w8.setCell ⟨g, x5.toNat * 3, none⟩ (.string t))) ?hg ?ho ?hn ?hr ?_; (case ho => rfl); (case hg => rfl); (case hn => rfl); (case hr => first | (go_simp; done) | (go_simp; rfl)); intro w9 hw; have hx1 : w9.cell? ⟨g, x5.toNat * 3 + 1, none⟩ = some v1 := (by rw [hw]; exact (World.cell?_setCell_other _ _ _ _ (by simp)).trans k1); have hx2 : w9.cell? ⟨g, x5.toNat * 3 + 2, none⟩ = some v2 := (by rw [hw]; exact (World.cell?_setCell_other _ _ _ _ (by simp)).trans k2); have HB9 := Aside0.mk ((by rw [hw]; exact below_set HB8.out HG.out) : Below w0.heap.size w0 w9); have HQ1 := Aside0.mk ((by rw [hw]; exact Kd.R_far HP1.out (fun k hk => (HOK.out k (HO1.out k hk)).2) _) : Kd.R _ _ w9 _ _ v1 (rd_T107 x0 x5).f1); have HQ2 := Aside0.mk ((by rw [hw]; exact Kd.R_far HP2.out (fun k hk => (HOK.out k (HO2.out k hk)).2) _) : Kd.R _ _ w9 _ _ v2 (rd_T107 x0 x5).f2); have HS9 := Aside0.mk ((by rw [hw]; exact HS8.out) : Kd.H k107 107 w9 w0.heap.size P0_ (.slice (some ⟨g, 0, none⟩) l0.length cap) x0 x5 oki (c.take 0 ++ [.string t] ++ c.drop (0 + 1))); have HK9 := Aside0.mk ((by rw [hw]; exact (HK.out.then_ HK8.out (fun k hk => hk.elim)).setCell (.inl HPG.out) _) : Kept w w9 P0_); clear hw k0 k1 k2 f0 HB8 HP1 HP2 HS8) | (go_at_call 96; (refine (laws_markInsS.calls gk _ v1 ((rd_T107 x0 x5).f1) (wrap64 (x1 + 1)) b1 b2 w0 _ HB9.out HQ1.out HM.out).mono ?_); rintro e w10 ⟨rfl, hr10, hb10, hk10⟩; have HB10 := Aside0.mk hb10; have HK10 := Aside0.mk hk10; have HR10 := Aside0.mk (Kd.R_tight rfl hr10); have k2 := cell_kept hx2 hk10 (fun h => (HOK.out _ (HO1.out _ h)).2 rfl); have HQ3 := Aside0.mk (Kd.R_kept HQ2.out hk10 (fun k e2 e1 => HDJ.out k e1 e2)); clear hr10 hb10 hk10 hx1 hx2) | (go_at_call 97; (refine (laws_markRefS.calls gk _ v2 ((rd_T107 x0 x5).f2) b1 d1 d2 w0 _ HB10.out HQ3.out HN.out).mono ?_); rintro e w11 ⟨rfl, hr11, hb11, hk11⟩; have HB11 := Aside0.mk hb11; have HK11 := Aside0.mk hk11; have HR11 := Aside0.mk (Kd.R_tight rfl hr11); have HR12 := Aside0.mk (Kd.R_kept HR10.out hk11 (fun k e1 e2 => HDJ.out k e1 e2)); clear hr11 hb11 hk11 k2))
      go_roundg gk
      case rel => exact ⟨x0.set (x5 : Int).toNat ⟨t, b2, d2⟩, d1, wrap64 (x5 + 1), rfl, rfl, ⟨HH.out⟩, ⟨by rw [List.length_set]; exact HX.out⟩, ⟨by
        have h10 := Kd.H_kept HS9.out HK10.out (fun k _ hn hs => hn (HO1.out k hs))
        have h11 := Kd.H_kept h10 HK11.out (fun k _ hn hs => hn (HO2.out k hs))
        have hc := HCE.out
        subst hc
        exact Kd.H_back h11 (x' := ⟨t, b2, d2⟩) (k107_mkM _ _ _ ⟨t, b2, d2⟩ (Kd.R_mono HR12.out (fun k hk => HO1.out k hk)) (Kd.R_mono HR11.out (fun k hk => HO2.out k hk))) (fun _ hk => hk)⟩, ⟨HB11.out⟩, ⟨(HK9.out.then_ HK10.out (fun k hk => .inl (HOK.out k (HO1.out k hk)).1)).then_ HK11.out (fun k hk => .inl (HOK.out k (HO2.out k hk)).1)⟩⟩
      all_goals omega

/-! ### laws_FnExactLayout: function 7 -/
def KT (w : World) (L : List Nat) (k : Nat) : Prop := ∃ q, q ∈ L ∧ ∃ cells, w.heap[k]? = some (.cells cells q (0, 0))
theorem KT_ne {w : World} {L1 L2 : List Nat} {k : Nat} (hd : ∀ q, q ∈ L1 → ¬ q ∈ L2) (h1 : KT w L1 k) (h2 : KT w L2 k) : False := by
  obtain ⟨q1, m1, c1, e1⟩ := h1; obtain ⟨q2, m2, c2, e2⟩ := h2
  rw [e1] at e2; simp at e2; obtain ⟨_, rfl⟩ := e2; exact hd _ m1 m2
theorem own_any {A : Option Addr} {n n' c c' : Nat} : (Value.slice A n c).ownBlock = (Value.slice A n' c').ownBlock := by cases A <;> rfl
theorem iv_R {α : Type} {d : Kd α} {e b : Nat} {ok : Nat → Prop} {W w' : World} {v : Value} {xs : List α} (h : d.R e w' W.heap.size ok v xs) (hb : b ≤ W.heap.size) : d.R e w' b (fun k => W.heap.size ≤ k ∧ k < w'.heap.size ∧ KT w' (e :: d.E) k ∧ ok k) v xs := Kd.R_lower (Kd.R_mono (Kd.R_bound h) (fun _ hk => ⟨hk.2.1, hk.2.2.1, hk.2.2.2, hk.1⟩)) hb
theorem iv_O {α : Type} {d : Kd α} {e b : Nat} {ok : Nat → Prop} {W w' : World} {v : Value} {xs : List α} (hE : d.E = []) (h : d.R e w' W.heap.size ok v xs) (hb : b ≤ W.heap.size) : d.R e w' b (fun k => W.heap.size ≤ k ∧ k < w'.heap.size ∧ KT w' (e :: d.E) k ∧ some k = v.ownBlock) v xs := Kd.R_lower (Kd.R_mono (Kd.R_bound (Kd.R_tight2 hE h)) (fun _ hk => ⟨hk.2.1, hk.2.2.1, hk.2.2.2, hk.1.1⟩)) hb
theorem iv_S {α : Type} {d : Kd α} {e b : Nat} {ok : Nat → Prop} {W w' : World} {v : Value} {xs : List α} (h : Kd.S d e w' W.heap.size ok v xs) (hb : b ≤ W.heap.size) : Kd.S d e w' b (fun k => W.heap.size ≤ k ∧ k < w'.heap.size ∧ KT w' (e :: d.E) k ∧ ok k) v xs := Kd.S_lower (Kd.S_mono (Kd.S_bound h) (fun _ hk => ⟨hk.2.1, hk.2.2.1, hk.2.2.2, hk.1⟩)) hb
theorem iv_Q {α : Type} {d : Kd α} {e b : Nat} {ok : Nat → Prop} {W w' : World} {v : Value} {xs : List α} (h : d.Q e w' W.heap.size ok v xs) (hb : b ≤ W.heap.size) : d.Q e w' b (fun k => W.heap.size ≤ k ∧ k < w'.heap.size ∧ KT w' (e :: d.E) k ∧ ok k) v xs := Kd.Q_lower (Kd.Q_mono (Kd.Q_bound h) (fun _ hk => ⟨hk.2.1, hk.2.2.1, hk.2.2.2, hk.1⟩)) hb
def laws_FnExactLayout.f (k : Nat) (l0 : List (S102)) : Option (Bool) := (laws_szPartS.f k l0 1048576).bind fun t272 => (if t272 < 0 then (some true) else ((laws_toPartS.f k l0).bind fun t273 => ((spec_Layout.f k t273).bind fun bt276 => ((laws_toPartS.f k l0).bind fun t280 => ((impl_Layout.f k t280).bind fun bt283 => ((laws_eqIntS.f k bt283.1 bt276.1).bind fun t287 => (if t287 = true then (if (bt283.2 != bt276.2) = true then (some false) else ((laws_toPartS.f k l0).bind fun t288 => ((laws_eqPartS.f k t280 t288).bind fun t291 => (if t291 = true then ((laws_markPartS.f k t280 1).bind fun bt292 => (if bt292.1 < 0 then (some false) else ((laws_eqIntS.f k bt283.1 bt276.1).bind fun t294 => (if t294 = true then ((laws_markIntS.f k bt283.1 1).bind fun bt295 => ((laws_heldIntS.f k bt295.2 1).bind fun t297 => (if t297 < 0 then (some false) else (if t297 = bt295.1 then ((laws_toPartS.f k l0).bind fun t298 => ((impl_Layout.f k t298).bind fun bt301 => ((laws_eqIntS.f k bt301.1 bt276.1).bind fun t305 => (if t305 = true then (if (bt301.2 != bt276.2) = true then (some false) else ((laws_heldIntS.f k bt295.2 1).bind fun t306 => (if t306 < 0 then (some false) else (if t306 = bt295.1 then (some true) else (some false))))) else (some false))))) else (some false))))) else (some false))))) else (some false))))) else (some false))))))))
theorem laws_FnExactLayout.mono : ∀ a0 k, LeO (laws_FnExactLayout.f k a0) (laws_FnExactLayout.f (k + 1) a0) := by
  intro a0 k
  unfold laws_FnExactLayout.f
  repeat' first
      | (with_reducible exact impl_Layout.mono _ _)
      | (with_reducible exact laws_eqIntS.mono _ _ _)
      | (with_reducible exact laws_eqPartS.mono _ _ _)
      | (with_reducible exact laws_heldIntS.mono _ _ _)
      | (with_reducible exact laws_markIntS.mono _ _ _)
      | (with_reducible exact laws_markPartS.mono _ _ _)
      | (with_reducible exact laws_szPartS.mono _ _ _)
      | (with_reducible exact laws_toPartS.mono _ _)
      | (with_reducible exact spec_Layout.mono _ _)
      | (with_reducible exact LeO.refl _)
      | (with_reducible exact LeO.none _)
      | (with_reducible refine LeO.ite ?_ ?_)
      | (with_reducible refine LeO.bind ?_ (fun _ => ?_))
      | exact impl_Layout.mono _ _
      | exact laws_eqIntS.mono _ _ _
      | exact laws_eqPartS.mono _ _ _
      | exact laws_heldIntS.mono _ _ _
      | exact laws_markIntS.mono _ _ _
      | exact laws_markPartS.mono _ _ _
      | exact laws_szPartS.mono _ _ _
      | exact laws_toPartS.mono _ _
      | exact spec_Layout.mono _ _
      | exact LeO.none _
      | refine LeO.ite ?_ ?_
      | refine LeO.bind ?_ (fun _ => ?_)
set_option maxHeartbeats 8000000 in
set_option maxRecDepth 100000 in
theorem laws_FnExactLayout.calls (k : Nat) (A0 : Option Addr) (c0 : Nat) (l0 : List (S102)) (r : Bool) (w : World) (hr0 : Kd.C k102 w A0 l0.length l0) (hc0 : l0.length ≤ c0) (hr_ : r = true) (h : laws_FnExactLayout.f k l0 = some r) :
    Calls Try.prog 7 #[.slice A0 l0.length c0] w fun e w' => e = .returned (.bool r) ∧ Below w.heap.size w w' := by
  subst hr_
  have HR0 := Aside0.mk hr0
  have HC0 := Aside0.mk hc0
  clear hr0 hc0
  unfold laws_FnExactLayout.f at h
  have H := h
  clear h
  obtain ⟨t272, hA_, H⟩ := Option.bind_eq_some_iff.mp H
  try dsimp only at H
  have AE0 := Aside0.mk hA_
  clear hA_
  by_cases ci1 : t272 < 0
  · rw [if_pos ci1] at H
    have ci1b0 : decide (t272 < 0) = true := decide_eq_true ci1
    clear ci1
    have HB := Aside0.mk (Below.refl w.heap.size w)
    have HZ := Aside0.mk (Nat.le_refl w.heap.size)
    clear H
    go_enter Try.func7, Try.ntmps7
    go_wp2_with (first | (go_at_call 44; (refine (laws_szPartS.calls k _ _ l0 1048576 t272 _ ((Kd.C_below HR0.out HB.out)) (HC0.out) AE0.out).mono ?_); rintro e wx1 ⟨rfl, hb⟩; have n_ := Aside0.mk (show _ ∧ w.heap.size ≤ wx1.heap.size from ⟨HZ.out, hb.size⟩); clear HZ; have HZ := n_; clear n_; have n_ := Aside0.mk (below_step HB.out hb); clear HB; have HB := n_; clear n_ hb))
    go_ret
    exact ⟨rfl, HB.out⟩
  rw [if_neg ci1] at H
  have ci1b0 : decide (t272 < 0) = false := decide_eq_false ci1
  clear ci1
  obtain ⟨t273, hA_, H⟩ := Option.bind_eq_some_iff.mp H
  try dsimp only at H
  have AE1 := Aside0.mk hA_
  clear hA_
  obtain ⟨⟨t276, t277⟩, hA_, H⟩ := Option.bind_eq_some_iff.mp H
  try dsimp only at H
  have AE2 := Aside0.mk hA_
  clear hA_
  obtain ⟨t280, hA_, H⟩ := Option.bind_eq_some_iff.mp H
  try dsimp only at H
  have AE3 := Aside0.mk hA_
  clear hA_
  obtain ⟨⟨t283, t284⟩, hA_, H⟩ := Option.bind_eq_some_iff.mp H
  try dsimp only at H
  have AE4 := Aside0.mk hA_
  clear hA_
  obtain ⟨t287, hA_, H⟩ := Option.bind_eq_some_iff.mp H
  try dsimp only at H
  have AE5 := Aside0.mk hA_
  clear hA_
  by_cases ci2 : t287 = true
  rotate_left
  · rw [if_neg ci2] at H
    exact absurd H (by simp)
  rw [if_pos ci2] at H
  subst ci2
  by_cases ci3 : (t284 != t277) = true
  · rw [if_pos ci3] at H
    exact absurd H (by simp)
  rw [if_neg ci3] at H
  have ci3b0 : (t284 != t277) = false := by simpa using ci3
  (try (have ci3b1 : decide (t284 = t277) = true := by simpa using ci3))
  (try (have ci3b2 : (t284 == t277) = true := by simpa using ci3))
  clear ci3
  obtain ⟨t288, hA_, H⟩ := Option.bind_eq_some_iff.mp H
  try dsimp only at H
  have AE6 := Aside0.mk hA_
  clear hA_
  obtain ⟨t291, hA_, H⟩ := Option.bind_eq_some_iff.mp H
  try dsimp only at H
  have AE7 := Aside0.mk hA_
  clear hA_
  by_cases ci4 : t291 = true
  rotate_left
  · rw [if_neg ci4] at H
    exact absurd H (by simp)
  rw [if_pos ci4] at H
  subst ci4
  obtain ⟨⟨t292, t293⟩, hA_, H⟩ := Option.bind_eq_some_iff.mp H
  try dsimp only at H
  have AE8 := Aside0.mk hA_
  clear hA_
  by_cases ci5 : t292 < 0
  · rw [if_pos ci5] at H
    exact absurd H (by simp)
  rw [if_neg ci5] at H
  have ci5b0 : decide (t292 < 0) = false := decide_eq_false ci5
  clear ci5
  obtain ⟨t294, hA_, H⟩ := Option.bind_eq_some_iff.mp H
  try dsimp only at H
  have AE9 := Aside0.mk hA_
  clear hA_
  by_cases ci6 : t294 = true
  rotate_left
  · rw [if_neg ci6] at H
    exact absurd H (by simp)
  rw [if_pos ci6] at H
  subst ci6
  obtain ⟨⟨t295, t296⟩, hA_, H⟩ := Option.bind_eq_some_iff.mp H
  try dsimp only at H
  have AE10 := Aside0.mk hA_
  clear hA_
  obtain ⟨t297, hA_, H⟩ := Option.bind_eq_some_iff.mp H
  try dsimp only at H
  have AE11 := Aside0.mk hA_
  clear hA_
  by_cases ci7 : t297 < 0
  · rw [if_pos ci7] at H
    exact absurd H (by simp)
  rw [if_neg ci7] at H
  have ci7b0 : decide (t297 < 0) = false := decide_eq_false ci7
  clear ci7
  by_cases ci8 : t297 = t295
  rotate_left
  · rw [if_neg ci8] at H
    exact absurd H (by simp)
  rw [if_pos ci8] at H
  have ci8b0 : (t297 == t295) = true := beq_iff_eq.mpr ci8
  have ci8b1 : (t297 != t295) = false := bne_eq_false_iff_eq.mpr ci8
  clear ci8
  obtain ⟨t298, hA_, H⟩ := Option.bind_eq_some_iff.mp H
  try dsimp only at H
  have AE12 := Aside0.mk hA_
  clear hA_
  obtain ⟨⟨t301, t302⟩, hA_, H⟩ := Option.bind_eq_some_iff.mp H
  try dsimp only at H
  have AE13 := Aside0.mk hA_
  clear hA_
  obtain ⟨t305, hA_, H⟩ := Option.bind_eq_some_iff.mp H
  try dsimp only at H
  have AE14 := Aside0.mk hA_
  clear hA_
  by_cases ci9 : t305 = true
  rotate_left
  · rw [if_neg ci9] at H
    exact absurd H (by simp)
  rw [if_pos ci9] at H
  subst ci9
  by_cases ci10 : (t302 != t277) = true
  · rw [if_pos ci10] at H
    exact absurd H (by simp)
  rw [if_neg ci10] at H
  have ci10b0 : (t302 != t277) = false := by simpa using ci10
  (try (have ci10b1 : decide (t302 = t277) = true := by simpa using ci10))
  (try (have ci10b2 : (t302 == t277) = true := by simpa using ci10))
  clear ci10
  obtain ⟨t306, hA_, H⟩ := Option.bind_eq_some_iff.mp H
  try dsimp only at H
  have AE15 := Aside0.mk hA_
  clear hA_
  by_cases ci11 : t306 < 0
  · rw [if_pos ci11] at H
    exact absurd H (by simp)
  rw [if_neg ci11] at H
  have ci11b0 : decide (t306 < 0) = false := decide_eq_false ci11
  clear ci11
  by_cases ci12 : t306 = t295
  rotate_left
  · rw [if_neg ci12] at H
    exact absurd H (by simp)
  rw [if_pos ci12] at H
  have ci12b0 : (t306 == t295) = true := beq_iff_eq.mpr ci12
  have ci12b1 : (t306 != t295) = false := bne_eq_false_iff_eq.mpr ci12
  clear ci12
  have HB := Aside0.mk (Below.refl w.heap.size w)
  have HZ := Aside0.mk (Nat.le_refl w.heap.size)
  clear H
  go_enter Try.func7, Try.ntmps7
  go_wp2_with (first | (go_at_call 44; (refine (laws_szPartS.calls k _ _ l0 1048576 t272 _ ((Kd.C_below HR0.out HB.out)) (HC0.out) AE0.out).mono ?_); rintro e wx1 ⟨rfl, hb⟩; have n_ := Aside0.mk (show _ ∧ w.heap.size ≤ wx1.heap.size from ⟨HZ.out, hb.size⟩); clear HZ; have HZ := n_; clear n_; have n_ := Aside0.mk (below_step HB.out hb); clear HB; have HB := n_; clear n_ hb))
  go_wp2_with (first | (go_at_call 46; (refine (laws_toPartS.calls k _ _ l0 t273 _ ((Kd.C_below HR0.out HB.out)) (HC0.out) AE1.out).mono ?_); rintro e wx2 ⟨v274, rfl, ho0, hb⟩; obtain ⟨AHO275, cHO275, e_⟩ := Kd.S_slice ho0; subst e_; have HO275 := Aside0.mk (iv_S ho0 HB.out.size); clear ho0; have n_ := Aside0.mk (show _ ∧ wx1.heap.size ≤ wx2.heap.size from ⟨HZ.out, hb.size⟩); clear HZ; have HZ := n_; clear n_; have n_ := Aside0.mk (below_step HB.out hb); clear HB; have HB := n_; clear n_ hb))
  go_wp2_with (first | (go_at_call 45; (refine (spec_Layout.calls k _ _ t273 t276 _ _ ((Kd.S_reads' HO275.out).2.2) ((Kd.S_reads' HO275.out).2.1) AE2.out).mono ?_); rintro e wx3 ⟨v278, rfl, ho0, hb⟩; obtain ⟨AHO279, cHO279, e_⟩ := Kd.R_slice ho0; subst e_; have n0_ := Aside0.mk (Kd.S_below HO275.out hb); clear HO275; have HO275 := n0_; clear n0_; have HO279 := Aside0.mk (iv_O rfl ho0 HB.out.size); clear ho0; have n_ := Aside0.mk (show _ ∧ wx2.heap.size ≤ wx3.heap.size from ⟨HZ.out, hb.size⟩); clear HZ; have HZ := n_; clear n_; have n_ := Aside0.mk (below_step HB.out hb); clear HB; have HB := n_; clear n_ hb))
  go_wp2_with (first | (go_at_call 46; (refine (laws_toPartS.calls k _ _ l0 t280 _ ((Kd.C_below HR0.out HB.out)) (HC0.out) AE3.out).mono ?_); rintro e wx4 ⟨v281, rfl, ho0, hb⟩; obtain ⟨AHO282, cHO282, e_⟩ := Kd.S_slice ho0; subst e_; have n0_ := Aside0.mk (Kd.S_below HO275.out hb); have n1_ := Aside0.mk (Kd.R_below HO279.out hb); clear HO275; clear HO279; have HO275 := n0_; have HO279 := n1_; clear n0_; clear n1_; have HO282 := Aside0.mk (iv_S ho0 HB.out.size); clear ho0; have n_ := Aside0.mk (show _ ∧ wx3.heap.size ≤ wx4.heap.size from ⟨HZ.out, hb.size⟩); clear HZ; have HZ := n_; clear n_; have n_ := Aside0.mk (below_step HB.out hb); clear HB; have HB := n_; clear n_ hb))
  go_wp2_with (first | (go_at_call 47; (refine (impl_Layout.calls k _ _ t280 t283 _ _ ((Kd.S_reads' HO282.out).2.2) ((Kd.S_reads' HO282.out).2.1) AE4.out).mono ?_); rintro e wx5 ⟨v285, rfl, ho0, hb⟩; obtain ⟨AHO286, cHO286, e_⟩ := Kd.R_slice ho0; subst e_; have n0_ := Aside0.mk (Kd.S_below HO275.out hb); have n1_ := Aside0.mk (Kd.R_below HO279.out hb); have n2_ := Aside0.mk (Kd.S_below HO282.out hb); clear HO275; clear HO279; clear HO282; have HO275 := n0_; have HO279 := n1_; have HO282 := n2_; clear n0_; clear n1_; clear n2_; have HO286 := Aside0.mk (iv_O rfl ho0 HB.out.size); clear ho0; have n_ := Aside0.mk (show _ ∧ wx4.heap.size ≤ wx5.heap.size from ⟨HZ.out, hb.size⟩); clear HZ; have HZ := n_; clear n_; have n_ := Aside0.mk (below_step HB.out hb); clear HB; have HB := n_; clear n_ hb))
  go_wp2_with (first | (go_at_call 28; (refine (laws_eqIntS.calls k _ _ t283 _ _ t276 _ _ ((Kd.R_reads' HO286.out).2.2) ((Kd.R_reads' HO286.out).2.1) ((Kd.R_reads' HO279.out).2.2) ((Kd.R_reads' HO279.out).2.1) AE5.out).mono ?_); rintro e wx6 ⟨rfl, hd_⟩; have hb := hd_.below; clear hd_; have n0_ := Aside0.mk (Kd.S_below HO275.out hb); have n1_ := Aside0.mk (Kd.R_below HO279.out hb); have n2_ := Aside0.mk (Kd.S_below HO282.out hb); have n3_ := Aside0.mk (Kd.R_below HO286.out hb); clear HO275; clear HO279; clear HO282; clear HO286; have HO275 := n0_; have HO279 := n1_; have HO282 := n2_; have HO286 := n3_; clear n0_; clear n1_; clear n2_; clear n3_; have n_ := Aside0.mk (show _ ∧ wx5.heap.size ≤ wx6.heap.size from ⟨HZ.out, hb.size⟩); clear HZ; have HZ := n_; clear n_; have n_ := Aside0.mk (below_step HB.out hb); clear HB; have HB := n_; clear n_ hb))
  go_wp2_with (first | (go_at_call 46; (refine (laws_toPartS.calls k _ _ l0 t288 _ ((Kd.C_below HR0.out HB.out)) (HC0.out) AE6.out).mono ?_); rintro e wx7 ⟨v289, rfl, ho0, hb⟩; obtain ⟨AHO290, cHO290, e_⟩ := Kd.S_slice ho0; subst e_; have n0_ := Aside0.mk (Kd.S_below HO275.out hb); have n1_ := Aside0.mk (Kd.R_below HO279.out hb); have n2_ := Aside0.mk (Kd.S_below HO282.out hb); have n3_ := Aside0.mk (Kd.R_below HO286.out hb); clear HO275; clear HO279; clear HO282; clear HO286; have HO275 := n0_; have HO279 := n1_; have HO282 := n2_; have HO286 := n3_; clear n0_; clear n1_; clear n2_; clear n3_; have HO290 := Aside0.mk (iv_S ho0 HB.out.size); clear ho0; have n_ := Aside0.mk (show _ ∧ wx6.heap.size ≤ wx7.heap.size from ⟨HZ.out, hb.size⟩); clear HZ; have HZ := n_; clear n_; have n_ := Aside0.mk (below_step HB.out hb); clear HB; have HB := n_; clear n_ hb))
  go_wp2_with (first | (go_at_call 48; (refine (laws_eqPartS.calls k _ _ t280 _ _ t288 _ _ ((Kd.S_reads' HO282.out).2.2) ((Kd.S_reads' HO282.out).2.1) ((Kd.S_reads' HO290.out).2.2) ((Kd.S_reads' HO290.out).2.1) AE7.out).mono ?_); rintro e wx8 ⟨rfl, hb⟩; have n0_ := Aside0.mk (Kd.S_below HO275.out hb); have n1_ := Aside0.mk (Kd.R_below HO279.out hb); have n2_ := Aside0.mk (Kd.S_below HO282.out hb); have n3_ := Aside0.mk (Kd.R_below HO286.out hb); have n4_ := Aside0.mk (Kd.S_below HO290.out hb); clear HO275; clear HO279; clear HO282; clear HO286; clear HO290; have HO275 := n0_; have HO279 := n1_; have HO282 := n2_; have HO286 := n3_; have HO290 := n4_; clear n0_; clear n1_; clear n2_; clear n3_; clear n4_; have n_ := Aside0.mk (show _ ∧ wx7.heap.size ≤ wx8.heap.size from ⟨HZ.out, hb.size⟩); clear HZ; have HZ := n_; clear n_; have n_ := Aside0.mk (below_step HB.out hb); clear HB; have HB := n_; clear n_ hb))
  go_wp2_with (first | (go_at_call 49; (refine (laws_markPartS.calls k _ (.slice AHO282 t280.length cHO282) t280 1 t292 t293 w _ HB.out (HO282.out) AE8.out).mono ?_); rintro e wx9 ⟨rfl, hy0, hb, hkp⟩; have n0_ := Aside0.mk (Kd.S_kept HO275.out hkp (fun k_ h1_ h2_ => (by have hz_ := HZ.out; have a_ := h1_.1; have b_ := h1_.2.1; have c_ := h2_.1; have d_ := h2_.2.1; clear h1_ h2_; omega))); have n1_ := Aside0.mk (Kd.R_kept HO279.out hkp (fun k_ h1_ h2_ => (by have hz_ := HZ.out; have a_ := h1_.1; have b_ := h1_.2.1; have c_ := h2_.1; have d_ := h2_.2.1; clear h1_ h2_; omega))); have n2_ := Aside0.mk (Kd.R_kept HO286.out hkp (fun k_ h1_ h2_ => (by have hz_ := HZ.out; have a_ := h1_.1; have b_ := h1_.2.1; have c_ := h2_.1; have d_ := h2_.2.1; clear h1_ h2_; omega))); have n3_ := Aside0.mk (Kd.S_kept HO290.out hkp (fun k_ h1_ h2_ => (by have hz_ := HZ.out; have a_ := h1_.1; have b_ := h1_.2.1; have c_ := h2_.1; have d_ := h2_.2.1; clear h1_ h2_; omega))); clear HO275; clear HO279; clear HO286; clear HO290; have HO275 := n0_; have HO279 := n1_; have HO286 := n2_; have HO290 := n3_; clear n0_; clear n1_; clear n2_; clear n3_; have n_ := Aside0.mk (hy0); have hl_ := (Kd.S_reads' n_.out).1; rw [hl_] at n_ ⊢; clear hl_ HO282; have HO282 := n_; clear n_; have n_ := Aside0.mk (show _ ∧ wx8.heap.size ≤ wx9.heap.size from ⟨HZ.out, hkp.1⟩); clear HZ; have HZ := n_; clear n_; have n_ := Aside0.mk hb; clear HB; have HB := n_; clear n_ hb hkp))
  go_wp2_with (first | (go_at_call 28; (refine (laws_eqIntS.calls k _ _ t283 _ _ t276 _ _ ((Kd.R_reads' HO286.out).2.2) ((Kd.R_reads' HO286.out).2.1) ((Kd.R_reads' HO279.out).2.2) ((Kd.R_reads' HO279.out).2.1) AE9.out).mono ?_); rintro e wx10 ⟨rfl, hd_⟩; have hb := hd_.below; clear hd_; have n0_ := Aside0.mk (Kd.S_below HO275.out hb); have n1_ := Aside0.mk (Kd.R_below HO279.out hb); have n2_ := Aside0.mk (Kd.S_below HO282.out hb); have n3_ := Aside0.mk (Kd.R_below HO286.out hb); have n4_ := Aside0.mk (Kd.S_below HO290.out hb); clear HO275; clear HO279; clear HO282; clear HO286; clear HO290; have HO275 := n0_; have HO279 := n1_; have HO282 := n2_; have HO286 := n3_; have HO290 := n4_; clear n0_; clear n1_; clear n2_; clear n3_; clear n4_; have n_ := Aside0.mk (show _ ∧ wx9.heap.size ≤ wx10.heap.size from ⟨HZ.out, hb.size⟩); clear HZ; have HZ := n_; clear n_; have n_ := Aside0.mk (below_step HB.out hb); clear HB; have HB := n_; clear n_ hb))
  go_wp2_with (first | (go_at_call 35; (refine (laws_markIntS.calls k _ (.slice AHO286 t283.length cHO286) t283 1 t295 t296 w _ HB.out (HO286.out) AE10.out).mono ?_); rintro e wx11 ⟨rfl, hy0, hb, hkp⟩; have n0_ := Aside0.mk (Kd.S_kept HO275.out hkp (fun k_ h1_ h2_ => (by have hz_ := HZ.out; have a_ := h1_.1; have b_ := h1_.2.1; have c_ := h2_.1; have d_ := h2_.2.1; clear h1_ h2_; omega))); have n1_ := Aside0.mk (Kd.R_kept HO279.out hkp (fun k_ h1_ h2_ => (by have hz_ := HZ.out; have a_ := h1_.1; have b_ := h1_.2.1; have c_ := h2_.1; have d_ := h2_.2.1; clear h1_ h2_; omega))); have n2_ := Aside0.mk (Kd.S_kept HO282.out hkp (fun k_ h1_ h2_ => (by have hz_ := HZ.out; have a_ := h1_.1; have b_ := h1_.2.1; have c_ := h2_.1; have d_ := h2_.2.1; clear h1_ h2_; omega))); have n3_ := Aside0.mk (Kd.S_kept HO290.out hkp (fun k_ h1_ h2_ => (by have hz_ := HZ.out; have a_ := h1_.1; have b_ := h1_.2.1; have c_ := h2_.1; have d_ := h2_.2.1; clear h1_ h2_; omega))); clear HO275; clear HO279; clear HO282; clear HO290; have HO275 := n0_; have HO279 := n1_; have HO282 := n2_; have HO290 := n3_; clear n0_; clear n1_; clear n2_; clear n3_; have n_ := Aside0.mk (Kd.R_reok rfl hy0 (fun k_ e_ => HO286.out.1 k_ e_)); have hl_ := (Kd.R_reads' n_.out).1; rw [hl_] at n_ ⊢; clear hl_ HO286; have HO286 := n_; clear n_; have n_ := Aside0.mk (show _ ∧ wx10.heap.size ≤ wx11.heap.size from ⟨HZ.out, hkp.1⟩); clear HZ; have HZ := n_; clear n_; have n_ := Aside0.mk hb; clear HB; have HB := n_; clear n_ hb hkp))
  go_wp2_with (first | (go_at_call 42; (refine (laws_heldIntS.calls k _ _ t296 1 t297 _ ((Kd.R_reads' HO286.out).2.2) ((Kd.R_reads' HO286.out).2.1) AE11.out).mono ?_); rintro e wx12 ⟨rfl, hd_⟩; have hb := hd_.below; clear hd_; have n0_ := Aside0.mk (Kd.S_below HO275.out hb); have n1_ := Aside0.mk (Kd.R_below HO279.out hb); have n2_ := Aside0.mk (Kd.S_below HO282.out hb); have n3_ := Aside0.mk (Kd.R_below HO286.out hb); have n4_ := Aside0.mk (Kd.S_below HO290.out hb); clear HO275; clear HO279; clear HO282; clear HO286; clear HO290; have HO275 := n0_; have HO279 := n1_; have HO282 := n2_; have HO286 := n3_; have HO290 := n4_; clear n0_; clear n1_; clear n2_; clear n3_; clear n4_; have n_ := Aside0.mk (show _ ∧ wx11.heap.size ≤ wx12.heap.size from ⟨HZ.out, hb.size⟩); clear HZ; have HZ := n_; clear n_; have n_ := Aside0.mk (below_step HB.out hb); clear HB; have HB := n_; clear n_ hb))
  go_wp2_with (first | (go_at_call 46; (refine (laws_toPartS.calls k _ _ l0 t298 _ ((Kd.C_below HR0.out HB.out)) (HC0.out) AE12.out).mono ?_); rintro e wx13 ⟨v299, rfl, ho0, hb⟩; obtain ⟨AHO300, cHO300, e_⟩ := Kd.S_slice ho0; subst e_; have n0_ := Aside0.mk (Kd.S_below HO275.out hb); have n1_ := Aside0.mk (Kd.R_below HO279.out hb); have n2_ := Aside0.mk (Kd.S_below HO282.out hb); have n3_ := Aside0.mk (Kd.R_below HO286.out hb); have n4_ := Aside0.mk (Kd.S_below HO290.out hb); clear HO275; clear HO279; clear HO282; clear HO286; clear HO290; have HO275 := n0_; have HO279 := n1_; have HO282 := n2_; have HO286 := n3_; have HO290 := n4_; clear n0_; clear n1_; clear n2_; clear n3_; clear n4_; have HO300 := Aside0.mk (iv_S ho0 HB.out.size); clear ho0; have n_ := Aside0.mk (show _ ∧ wx12.heap.size ≤ wx13.heap.size from ⟨HZ.out, hb.size⟩); clear HZ; have HZ := n_; clear n_; have n_ := Aside0.mk (below_step HB.out hb); clear HB; have HB := n_; clear n_ hb))
  go_wp2_with (first | (go_at_call 47; (refine (impl_Layout.calls k _ _ t298 t301 _ _ ((Kd.S_reads' HO300.out).2.2) ((Kd.S_reads' HO300.out).2.1) AE13.out).mono ?_); rintro e wx14 ⟨v303, rfl, ho0, hb⟩; obtain ⟨AHO304, cHO304, e_⟩ := Kd.R_slice ho0; subst e_; have n0_ := Aside0.mk (Kd.S_below HO275.out hb); have n1_ := Aside0.mk (Kd.R_below HO279.out hb); have n2_ := Aside0.mk (Kd.S_below HO282.out hb); have n3_ := Aside0.mk (Kd.R_below HO286.out hb); have n4_ := Aside0.mk (Kd.S_below HO290.out hb); have n5_ := Aside0.mk (Kd.S_below HO300.out hb); clear HO275; clear HO279; clear HO282; clear HO286; clear HO290; clear HO300; have HO275 := n0_; have HO279 := n1_; have HO282 := n2_; have HO286 := n3_; have HO290 := n4_; have HO300 := n5_; clear n0_; clear n1_; clear n2_; clear n3_; clear n4_; clear n5_; have HO304 := Aside0.mk (iv_O rfl ho0 HB.out.size); clear ho0; have n_ := Aside0.mk (show _ ∧ wx13.heap.size ≤ wx14.heap.size from ⟨HZ.out, hb.size⟩); clear HZ; have HZ := n_; clear n_; have n_ := Aside0.mk (below_step HB.out hb); clear HB; have HB := n_; clear n_ hb))
  go_wp2_with (first | (go_at_call 28; (refine (laws_eqIntS.calls k _ _ t301 _ _ t276 _ _ ((Kd.R_reads' HO304.out).2.2) ((Kd.R_reads' HO304.out).2.1) ((Kd.R_reads' HO279.out).2.2) ((Kd.R_reads' HO279.out).2.1) AE14.out).mono ?_); rintro e wx15 ⟨rfl, hd_⟩; have hb := hd_.below; clear hd_; have n0_ := Aside0.mk (Kd.S_below HO275.out hb); have n1_ := Aside0.mk (Kd.R_below HO279.out hb); have n2_ := Aside0.mk (Kd.S_below HO282.out hb); have n3_ := Aside0.mk (Kd.R_below HO286.out hb); have n4_ := Aside0.mk (Kd.S_below HO290.out hb); have n5_ := Aside0.mk (Kd.S_below HO300.out hb); have n6_ := Aside0.mk (Kd.R_below HO304.out hb); clear HO275; clear HO279; clear HO282; clear HO286; clear HO290; clear HO300; clear HO304; have HO275 := n0_; have HO279 := n1_; have HO282 := n2_; have HO286 := n3_; have HO290 := n4_; have HO300 := n5_; have HO304 := n6_; clear n0_; clear n1_; clear n2_; clear n3_; clear n4_; clear n5_; clear n6_; have n_ := Aside0.mk (show _ ∧ wx14.heap.size ≤ wx15.heap.size from ⟨HZ.out, hb.size⟩); clear HZ; have HZ := n_; clear n_; have n_ := Aside0.mk (below_step HB.out hb); clear HB; have HB := n_; clear n_ hb))
  go_wp2_with (first | (go_at_call 42; (refine (laws_heldIntS.calls k _ _ t296 1 t306 _ ((Kd.R_reads' HO286.out).2.2) ((Kd.R_reads' HO286.out).2.1) AE15.out).mono ?_); rintro e wx16 ⟨rfl, hd_⟩; have hb := hd_.below; clear hd_; have n0_ := Aside0.mk (Kd.S_below HO275.out hb); have n1_ := Aside0.mk (Kd.R_below HO279.out hb); have n2_ := Aside0.mk (Kd.S_below HO282.out hb); have n3_ := Aside0.mk (Kd.R_below HO286.out hb); have n4_ := Aside0.mk (Kd.S_below HO290.out hb); have n5_ := Aside0.mk (Kd.S_below HO300.out hb); have n6_ := Aside0.mk (Kd.R_below HO304.out hb); clear HO275; clear HO279; clear HO282; clear HO286; clear HO290; clear HO300; clear HO304; have HO275 := n0_; have HO279 := n1_; have HO282 := n2_; have HO286 := n3_; have HO290 := n4_; have HO300 := n5_; have HO304 := n6_; clear n0_; clear n1_; clear n2_; clear n3_; clear n4_; clear n5_; clear n6_; have n_ := Aside0.mk (show _ ∧ wx15.heap.size ≤ wx16.heap.size from ⟨HZ.out, hb.size⟩); clear HZ; have HZ := n_; clear n_; have n_ := Aside0.mk (below_step HB.out hb); clear HB; have HB := n_; clear n_ hb))
  go_ret
  exact ⟨rfl, HB.out⟩

/-- THE ONE PURE STATEMENT of laws_FnExactLayout: yours. -/
def laws_FnExactLayout.Pure : Prop := ∀ (l0 : List (S102)), (l0.length ≤ maxLen ∧ ∀ y1_ ∈ l0, (y1_.f0.size ≤ maxLen ∧ ((y1_.f1.length ≤ maxLen ∧ ∀ y2_ ∈ y1_.f1, ((Lit.int .i64 y2_.f0).wf = true ∧ ((Lit.int .i64 y2_.f1).wf = true ∧ ((Lit.int .i64 y2_.f2).wf = true ∧ ((Lit.int .i64 y2_.f3).wf = true ∧ (Lit.int .i64 y2_.f4).wf = true))))) ∧ (y1_.f2.length ≤ maxLen ∧ ∀ y3_ ∈ y1_.f2, ((Lit.int .i64 y3_.f0).wf = true ∧ y3_.f1.size ≤ maxLen))))) → ∃ k, laws_FnExactLayout.f k l0 = some true
theorem laws_FnExactLayout.walk (P : laws_FnExactLayout.Pure) (A0 : Option Addr) (c0 : Nat) (l0 : List (S102)) (w : World) (hr0 : Kd.C k102 w A0 l0.length l0) (hc0 : l0.length ≤ c0) (g0 : (l0.length ≤ maxLen ∧ ∀ y1_ ∈ l0, (y1_.f0.size ≤ maxLen ∧ ((y1_.f1.length ≤ maxLen ∧ ∀ y2_ ∈ y1_.f1, ((Lit.int .i64 y2_.f0).wf = true ∧ ((Lit.int .i64 y2_.f1).wf = true ∧ ((Lit.int .i64 y2_.f2).wf = true ∧ ((Lit.int .i64 y2_.f3).wf = true ∧ (Lit.int .i64 y2_.f4).wf = true))))) ∧ (y1_.f2.length ≤ maxLen ∧ ∀ y3_ ∈ y1_.f2, ((Lit.int .i64 y3_.f0).wf = true ∧ y3_.f1.size ≤ maxLen)))))) :
    Calls Try.prog 7 #[.slice A0 l0.length c0] w fun e w' => e = .returned (.bool true) ∧ Below w.heap.size w w' := by
  obtain ⟨k, h⟩ := P l0 g0
  exact laws_FnExactLayout.calls k A0 c0 l0 true w hr0 hc0 rfl h

end Go.Proofs.Ytbbieaglfgipnaa.PFnExactLayout
