-- made by wip/tools/myprint.py out of the seat's translation
import Derived.Test.YtnjdepmlpdjghaaPFnExactFinalsx0
import Derived.Test.YtnjdepmlpdjghaaPFnExactFinalsx8
import Derived.Test.YtnjdepmlpdjghaaPFnExactFinalsx13
import Derived.Test.YtnjdepmlpdjghaaPFnExactFinalsx14
namespace Go.Proofs.Ytnjdepmlpdjghaa.PFnExactFinals
open Go.RowKit Go.Proofs.YtnjdepmlpdjghaaW.PrintWords Go.Proofs.YtnjdepmlpdjghaaW.PrintLast Go.Proofs.YtnjdepmlpdjghaaW.PrintMore
attribute [local go_sem] max2_int min2_int max_two min_two max_three min_three max_four min_four   -- for this text's walks alone
set_option linter.unusedVariables false
set_option linter.unusedSimpArgs false
set_option maxHeartbeats 8000000
set_option maxRecDepth 100000

/-! ### laws_markHartS: function 29 -/
def laws_markHartS.l0 : Nat → List S29 → Int → Int → Option (Int × List S29)
 | 0, _, _, _ => none
 | k + 1, x0, x1, x5 => if x5 < (x0.length : Int) then (if 0 ≤ x5 then ((laws_markIntS.f k ((rd_T29 x0 x5).f0) x1).bind fun b => laws_markHartS.l0 k (x0.set (x5 : Int).toNat ⟨b.2, b.1, wrap64 (b.1 + 1)⟩) (wrap64 (wrap64 (b.1 + 1) + 1)) (wrap64 (x5 + 1))) else none) else some (x1, x0)
def laws_markHartS.f (k : Nat) (l0 : List S29) (a1 : Int) : Option (Int × List S29) := laws_markHartS.l0 k l0 a1 0
theorem laws_markHartS.mono_l : ∀ k, (∀ y0 y1 y2, LeO (laws_markHartS.l0 k y0 y1 y2) (laws_markHartS.l0 (k + 1) y0 y1 y2))
 | 0 => fun _ _ _ r h => by simp [laws_markHartS.l0] at h
 | k + 1 => by
  have ih0 := laws_markHartS.mono_l k
  intro y0 y1 y2
  unfold laws_markHartS.l0
  have mo0 := @laws_markIntS.mono
  exact zL
theorem laws_markHartS.mono : ∀ a0 a1 k, LeO (laws_markHartS.f k a0 a1) (laws_markHartS.f (k + 1) a0 a1) := fun a0 a1 k => laws_markHartS.mono_l k _ _ _
/-- One hart marked: its registers' row is its own. -/
theorem markH_back {g n cap base : Nat} {P oki : Nat → Prop} {w1 w2 : World} {x0 : List S29} {i : Int} {c : List Value} {v0 : Value} {x' : S29} (hH : Kd.H k29 29 w1 base P (.slice (some ⟨g, 0, none⟩) n cap) x0 i oki c) (h0 : 0 ≤ i) (h1 : i < n) (hoki : ∀ k, oki k → P k ∧ k ≠ g)
  (hc : c = [v0, .int .i64 (rd_T29 x0 i).f1, .int .i64 (rd_T29 x0 i).f2]) (hk : Kept w1 w2 oki) (hr : Kd.R (Kd.int .i64) 3 w2 base oki v0 x'.f0) :
  Kd.S k29 29 ((w2.setCell ⟨g, i.toNat * 3 + 1, none⟩ (.int .i64 x'.f1)).setCell ⟨g, i.toNat * 3 + 2, none⟩ (.int .i64 x'.f2)) base P (.slice (some ⟨g, 0, none⟩) n cap) (x0.set i.toNat x') := by
 have hH2 : Kd.H k29 29 w2 base P (.slice (some ⟨g, 0, none⟩) n cap) x0 i oki c := Kd.H_kept hH hk (fun k _ hn hs => hn hs)
 have hseg := (Kd.H_seg hH2 h0 h1 (seg := [.int .i64 x'.f1, .int .i64 x'.f2]) (j := 1) (by show 1 + 2 ≤ 3; omega) (by intro q hq; rcases List.mem_cons.1 hq with rfl | hq; rfl; rcases List.mem_cons.1 hq with rfl | hq; rfl; cases hq)).1
 have hr2 : Kd.R (Kd.int .i64) 3 ((w2.setCell ⟨g, i.toNat * 3 + 1, none⟩ (.int .i64 x'.f1)).setCell ⟨g, i.toNat * 3 + 2, none⟩ (.int .i64 x'.f2)) base oki v0 x'.f0 := Kd.R_far (Kd.R_far hr (fun k hk => (hoki k hk).2) _) (fun k hk => (hoki k hk).2) _
 subst hc
 exact Kd.H_back hseg (k29_mkM _ _ _ x' hr2) (fun _ hk => hk)
theorem laws_markHartS.calls (k : Nat) (P0_ : Nat → Prop) (u9000_ : Value) (l0 : List S29) (a1 : Int) (r1 : Int) (r2 : List S29) (w0 w : World) (hB : Below w0.heap.size w0 w) (ho0 : Kd.S k29 29 w w0.heap.size P0_ u9000_ l0) (h : laws_markHartS.f k l0 a1 = some (r1, r2)) :
  Calls Try.prog 29 #[u9000_, .int .i64 a1] w fun e w' => e = .returned (.int .i64 r1) ∧ Kd.S k29 29 w' w0.heap.size P0_ u9000_ r2 ∧ Below w0.heap.size w0 w' ∧ Kept w w' (fun k_ => P0_ k_) := by
 have H0 := zM (show laws_markHartS.l0 k l0 a1 0 = some (r1, r2) from h)
 have HS := zM ho0
 have HB := zM hB
 have HW := zM hB.size
 have hn9 : l0.length ≤ 9223372036854775807 := (by obtain ⟨A, c, _, _, hC⟩ := Kd.S_reads ho0; exact hC.2.1)
 have HL := zM hn9
 clear h hB hn9
 rcases Nat.eq_zero_or_pos l0.length with hz | hp
 ·obtain rfl := List.eq_nil_of_length_eq_zero hz
  obtain ⟨A, c, rfl⟩ := Kd.S_slice ho0
  clear ho0 hz
  have hr : r1 = a1 ∧ r2 = [] := by
   have h := H0.out
   cases k with
   | zero => simp [laws_markHartS.l0] at h
   | succ k => simp [laws_markHartS.l0] at h; exact ⟨h.1.symm, h.2⟩
  obtain ⟨rfl, rfl⟩ := hr
  go_enter Try.func29, Try.ntmps29
  go_wp2
  go_loopg [1, 5] 1 (fun kq v1 v5 w' => v1 = .int .i64 r1 ∧ v5 = .int .i64 0 ∧ w' = w)
  case atStart => exact ⟨rfl, rfl, rfl⟩
  case round =>
   obtain ⟨rfl, rfl, rfl⟩ := hrel
   go_wp2
   go_ret
   exact ⟨rfl, HS.out, HB.1, Kept.refl _ _⟩
 ·obtain ⟨g, cap, rfl, hg1, hg2, _⟩ := Kd.S_form ho0 hp
  have HG := zM hg1
  have hPg : P0_ g := (Kd.S_R ho0).1 g rfl
  have HPG := zM hPg
  clear ho0 hp hPg hg1 hg2
  go_enter Try.func29, Try.ntmps29
  go_wp2
  go_loopg [1, 5] k (fun kq v1 v5 w' => ∃ (x0 : List S29) (x1 x5 : Int), v1 = .int .i64 x1 ∧ v5 = .int .i64 x5 ∧ Aside0 (laws_markHartS.l0 kq x0 x1 x5 = some (r1, r2)) ∧ Aside0 (x0.length = l0.length) ∧ Aside0 (Kd.S k29 29 w' w0.heap.size P0_ (.slice (some ⟨g, 0, none⟩) l0.length cap) x0) ∧ Aside0 (Below w0.heap.size w0 w') ∧ Aside0 (Kept w w' P0_))
  case atStart => exact ⟨l0, a1, 0, rfl, rfl, ⟨H0.out⟩, ⟨rfl⟩, ⟨HS.out⟩, ⟨HB.1⟩, ⟨Kept.refl _ _⟩⟩
  case round =>
   clear HS HB H0
   obtain ⟨x0, x1, x5, rfl, rfl, H0, HX, HS, HB, HK⟩ := hrel
   cases gk with
   | zero => exact absurd H0.out (by simp [laws_markHartS.l0])
   | succ gk =>
   have H := H0.out
   simp only [laws_markHartS.l0] at H
   clear H0
   by_cases c1 : x5 < (l0.length : Int)
   rotate_left
   ·rw [if_neg (by rw [HX.out]; exact c1)] at H
    obtain ⟨rfl, rfl⟩ : x1 = r1 ∧ x0 = r2 := by simpa using H
    have d0 : decide (x5 < (l0.length : Int)) = false := decide_eq_false c1
    clear c1 H
    go_wp2
    go_ret
    exact ⟨rfl, HS.out, HB.1, HK.1⟩
   rw [if_pos (by rw [HX.out]; exact c1)] at H
   by_cases c2 : 0 ≤ x5
   rotate_left
   ·rw [if_neg c2] at H; exact absurd H (by simp)
   rw [if_pos c2] at H
   obtain ⟨⟨b1, b2⟩, hm, H⟩ := Option.bind_eq_some_iff.1 H
   dsimp only at H
   have HM := zM hm
   have HH := zM H
   have d0 : decide (x5 < (l0.length : Int)) = true := decide_eq_true c1
   have p1 : (0 ≤ x5) = True := eq_true c2
   have p2 : (x5 < (l0.length : Int)) = True := eq_true c1
   obtain ⟨oki, c, hcl, hMM, hcc, hfr, hoki, hHH⟩ := Kd.S_elem HS.out z29 x5 c2 c1
   obtain ⟨v0, hce, hR0⟩ := k29_openM hMM
   have hx0 : wr.cell? ⟨g, x5.toNat * 3, none⟩ = some v0 := by have := hcc 0 v0 (by rw [hce]; rfl); exact this
   have hx1 : wr.cell? ⟨g, x5.toNat * 3 + 1, none⟩ = some (.int .i64 (rd_T29 x0 x5).f1) := hcc 1 _ (by rw [hce]; rfl)
   have hx2 : wr.cell? ⟨g, x5.toNat * 3 + 2, none⟩ = some (.int .i64 (rd_T29 x0 x5).f2) := hcc 2 _ (by rw [hce]; rfl)
   have hf1 : wr.frozen? ⟨g, x5.toNat * 3 + 1, none⟩ = false := hfr 1
   have hf2 : wr.frozen? ⟨g, x5.toNat * 3 + 2, none⟩ = false := hfr 2
   have HR0 := zM hR0
   have HHH := zM hHH
   have HOK := zM hoki
   have HCE := zM hce
   have hgne : ¬ oki g := fun h => (hoki g h).2 rfl
   have HGN := zM hgne
   have HIN := zM c2
   have HIL := zM c1
   clear hR0 hHH hoki hce hgne hcl hMM hcc hfr c1 c2 hm H
   go_wp2_with (first | (go_at_call 28; (refine (laws_markIntS.calls gk oki v0 ((rd_T29 x0 x5).f0) x1 b1 b2 w0 _ HB.1 HR0.1 HM.out).mono ?_); rintro e w8 ⟨rfl, hr8, hb8, hk8⟩; have HR8 := zM hr8; have HB8 := zM hb8; have HK8 := zM hk8; have k1 := cell_kept hx1 hk8 HGN.out; have k2 := cell_kept hx2 hk8 HGN.out; have hge : w8.heap[g]? = wr.heap[g]? := hk8.2 g (World.block_lt_of_cell? wr _ hx1) HGN.out; have f1 : w8.frozen? ⟨g, x5.toNat * 3 + 1, none⟩ = false := (by have := hf1; simpa [World.frozen?, hge] using this); have f2 : w8.frozen? ⟨g, x5.toNat * 3 + 2, none⟩ = false := (by have := hf2; simpa [World.frozen?, hge] using this); clear hr8 hb8 hk8 hge hx0 hx1 hx2 hf1 hf2))
   go_roundg gk
   case rel => exact ⟨x0.set (x5 : Int).toNat ⟨b2, b1, wrap64 (b1 + 1)⟩, wrap64 (wrap64 (b1 + 1) + 1), wrap64 (x5 + 1), rfl, rfl, ⟨HH.out⟩, ⟨by rw [List.length_set]; exact HX.out⟩, ⟨markH_back (x' := ⟨b2, b1, wrap64 (b1 + 1)⟩) HHH.out HIN.out HIL.out HOK.out HCE.out HK8.1 (Kd.R_mono (Kd.R_tight rfl HR8.1) (fun k hk => HR0.1.1 k hk.symm))⟩, ⟨(HB8.1.setCell HG.1 _).setCell HG.1 _⟩, ⟨((HK.1.then_ HK8.1 (fun k hk => .inl (HOK.out k hk).1)).setCell (.inl HPG.out) _).setCell (.inl HPG.out) _⟩⟩
   all_goals omega

/-! ### laws_heldIntS: function 36 -/
def laws_heldIntS.l0 : Nat → List Int → Int → Int → Option (Int)
 | 0, _, _, _ => none
 | k + 1, x0, x1, x5 => if x5 < (x0.length : Int) then (if 0 ≤ x5 then (if (rd x0 x5) = x1 then (laws_heldIntS.l0 k x0 (wrap64 (x1 + 1)) (wrap64 (x5 + 1))) else (some (-1))) else (none)) else (some x1)
def laws_heldIntS.f (k : Nat) (l0 : List Int) (a1 : Int) : Option (Int) := laws_heldIntS.l0 k l0 a1 0
theorem laws_heldIntS.mono_l : ∀ k, (∀ y0 y1 y2, LeO (laws_heldIntS.l0 k y0 y1 y2) (laws_heldIntS.l0 (k + 1) y0 y1 y2))
 | 0 => fun _ _ _ r h => by simp [laws_heldIntS.l0] at h
 | k + 1 => by
  have ih0 := laws_heldIntS.mono_l k
  ·intros
   unfold laws_heldIntS.l0
   exact zL
theorem laws_heldIntS.mono : ∀ a0 a1 k, LeO (laws_heldIntS.f k a0 a1) (laws_heldIntS.f (k + 1) a0 a1) := by
 intro a0 a1 k
 have ih0 := laws_heldIntS.mono_l k
 unfold laws_heldIntS.f
 exact zL
theorem laws_heldIntS.calls (k : Nat) (A0 : Option Addr) (c0 : Nat) (l0 : List Int) (a1 : Int) (r : Int) (w : World) (hr0 : Kd.C (Kd.int .i64) w A0 l0.length l0) (hc0 : l0.length ≤ c0) (h : laws_heldIntS.f k l0 a1 = some r) :
  Calls Try.prog 36 #[.slice A0 l0.length c0, .int .i64 a1] w fun e w' => e = .returned (.int .i64 r) ∧ Drawn0 w w' := by
 have HR0 := zM hr0
 have HC0 := zM hc0
 clear hr0 hc0
 unfold laws_heldIntS.f at h
 have H := h
 clear h
 have H' := zM H
 clear H
 go_enter Try.func36, Try.ntmps36
 go_wp2
 go_loopg [1, 5] k (fun kq v1 v5 w' => ∃ (x1_1 : Int) (x5_1 : Int), v1 = .int .i64 x1_1 ∧ v5 = .int .i64 x5_1 ∧ Aside0 (laws_heldIntS.l0 kq l0 x1_1 x5_1 = some r) ∧ Aside0 (kq ≤ k) ∧ Drawn0 w w')
 case atStart => exact ⟨(a1), (0), zJJ, zJJ, H', ⟨Nat.le_refl _⟩, zDD⟩
 case round =>
  clear H'
  try clear p2
  obtain ⟨x1_1, x5_1, rfl, rfl, HA, HK1, ⟨m1, rfl⟩⟩ := hrel
  cases gk with
  | zero => exact absurd HA.1 (by simp [laws_heldIntS.l0])
  | succ k1 =>
   have H := HA.1
   clear HA
   simp only [laws_heldIntS.l0] at H
   by_cases c3 : x5_1 < (l0.length : Int)
   rotate_left
   ·rw [if_neg c3] at H
    have c3b0 := decide_eq_false c3
    clear c3
    obtain rfl := Option.some.inj H
    go_wp2
    go_ret
    exact ⟨zJJ, zDD⟩
   rw [if_pos c3] at H
   have c3b0 := decide_eq_true c3
   clear c3
   by_cases c4 : 0 ≤ x5_1
   rotate_left
   ·rw [if_neg c4] at H
    exact absurd H (by simp)
   rw [if_pos c4] at H
   have c4b0 := decide_eq_true c4
   clear c4
   by_cases c5 : (rd l0 x5_1) = x1_1
   rotate_left
   ·rw [if_neg c5] at H
    have c5b0 : ((rd l0 x5_1) == x1_1) = false := beq_eq_false_iff_ne.mpr c5
    have c5b1 : ((rd l0 x5_1) != x1_1) = true := bne_iff_ne.mpr c5
    obtain rfl := Option.some.inj H
    have p436 : 0 ≤ (x5_1 : Int) := zA
    have q436 : x5_1 < (l0.length : Int) := zA
    obtain ⟨ad436, e436, hx436_0⟩ := Kd.at_int HR0.1 x5_1 p436 q436
    cases e436
    replace p436 := eq_true p436
    replace q436 := eq_true q436
    go_wp2
    go_ret
    exact ⟨zJJ, zDD⟩
   rw [if_pos c5] at H
   have c5b0 : ((rd l0 x5_1) == x1_1) = true := beq_iff_eq.mpr c5
   have c5b1 : ((rd l0 x5_1) != x1_1) = false := bne_eq_false_iff_eq.mpr c5
   clear c5
   have H' := zM H
   clear H
   have p436 : 0 ≤ (x5_1 : Int) := zA
   have q436 : x5_1 < (l0.length : Int) := zA
   obtain ⟨ad436, e436, hx436_0⟩ := Kd.at_int HR0.1 x5_1 p436 q436
   cases e436
   replace p436 := eq_true p436
   replace q436 := eq_true q436
   go_wp2
   go_roundg k1
   case measure => have := HK1.1; omega
   case rel => exact ⟨(wrap64 (x1_1 + 1)), (wrap64 (x5_1 + 1)), zJJ, zJJ, H', ⟨by have := HK1.1; omega⟩, zDD⟩

/-! ### laws_FnExactFinals: function 8 -/
def KT (w : World) (L : List Nat) (k : Nat) : Prop := ∃ q, q ∈ L ∧ ∃ cells, w.heap[k]? = some (.cells cells q (0, 0))
theorem KT_ne {w : World} {L1 L2 : List Nat} {k : Nat} (hd : ∀ q, q ∈ L1 → ¬ q ∈ L2) (h1 : KT w L1 k) (h2 : KT w L2 k) : False := by
 obtain ⟨q1, m1, c1, e1⟩ := h1; obtain ⟨q2, m2, c2, e2⟩ := h2
 rw [e1] at e2; simp at e2; obtain ⟨_, rfl⟩ := e2; exact hd _ m1 m2
theorem own_any {A : Option Addr} {n n' c c' : Nat} : (Value.slice A n c).ownBlock = (Value.slice A n' c').ownBlock := by cases A <;> rfl
theorem iv_R {α : Type} {d : Kd α} {e b : Nat} {ok : Nat → Prop} {W w' : World} {v : Value} {xs : List α} (h : d.R e w' W.heap.size ok v xs) (hb : b ≤ W.heap.size) : d.R e w' b (fun k => W.heap.size ≤ k ∧ k < w'.heap.size ∧ KT w' (e :: d.E) k ∧ ok k) v xs := Kd.R_lower (Kd.R_mono (Kd.R_bound h) (fun _ hk => ⟨hk.2.1, hk.2.2.1, hk.2.2.2, hk.1⟩)) hb
theorem iv_O {α : Type} {d : Kd α} {e b : Nat} {ok : Nat → Prop} {W w' : World} {v : Value} {xs : List α} (hE : d.E = []) (h : d.R e w' W.heap.size ok v xs) (hb : b ≤ W.heap.size) : d.R e w' b (fun k => W.heap.size ≤ k ∧ k < w'.heap.size ∧ KT w' (e :: d.E) k ∧ some k = v.ownBlock) v xs := Kd.R_lower (Kd.R_mono (Kd.R_bound (Kd.R_tight2 hE h)) (fun _ hk => ⟨hk.2.1, hk.2.2.1, hk.2.2.2, hk.1.1⟩)) hb
theorem iv_P {α : Type} {d : Kd α} {e b : Nat} {ok : Nat → Prop} {W w' : World} {v : Value} {xs : List α} (hE : d.E = []) (h : d.R e w' W.heap.size ok v xs) (hb : b ≤ W.heap.size) : d.R e w' b (fun k => W.heap.size ≤ k ∧ k < w'.heap.size ∧ KT w' (e :: d.E) k ∧ some k = v.ownBlock ∧ ok k) v xs := Kd.R_lower (Kd.R_mono (Kd.R_bound (Kd.R_tight2 hE h)) (fun _ hk => ⟨hk.2.1, hk.2.2.1, hk.2.2.2, hk.1⟩)) hb
theorem iv_S {α : Type} {d : Kd α} {e b : Nat} {ok : Nat → Prop} {W w' : World} {v : Value} {xs : List α} (h : Kd.S d e w' W.heap.size ok v xs) (hb : b ≤ W.heap.size) : Kd.S d e w' b (fun k => W.heap.size ≤ k ∧ k < w'.heap.size ∧ KT w' (e :: d.E) k ∧ ok k) v xs := Kd.S_lower (Kd.S_mono (Kd.S_bound h) (fun _ hk => ⟨hk.2.1, hk.2.2.1, hk.2.2.2, hk.1⟩)) hb
theorem iv_Q {α : Type} {d : Kd α} {e b : Nat} {ok : Nat → Prop} {W w' : World} {v : Value} {xs : List α} (h : d.Q e w' W.heap.size ok v xs) (hb : b ≤ W.heap.size) : d.Q e w' b (fun k => W.heap.size ≤ k ∧ k < w'.heap.size ∧ KT w' (e :: d.E) k ∧ ok k) v xs := Kd.Q_lower (Kd.Q_mono (Kd.Q_bound h) (fun _ hk => ⟨hk.2.1, hk.2.2.1, hk.2.2.2, hk.1⟩)) hb
def laws_FnExactFinals.f (k : Nat) (l0 : List Int) (l1 : List (S68)) (a2 : Int) (a3 : Int) : Option (Bool) := if (l0.length : Int) > 1048576 then (some true) else ((laws_szHartS.f k l1 1048576).bind fun t484 => (if t484 < 0 then (some true) else ((laws_toIntS.f k l0).bind fun t485 => ((laws_toHartS.f k l1).bind fun t488 => ((spec_Finals.f k t485 t488 a2 a3).bind fun t491 => ((laws_toIntS.f k l0).bind fun t494 => ((laws_toHartS.f k l1).bind fun t497 => ((impl_Finals.f k t494 t497 a2 a3).bind fun t500 => ((laws_eqIntS.f k t500 t491).bind fun t503 => (if t503 = true then ((laws_toIntS.f k l0).bind fun t504 => ((laws_eqIntS.f k t494 t504).bind fun t507 => (if t507 = true then ((laws_toHartS.f k l1).bind fun t508 => ((laws_eqHartS.f k t497 t508).bind fun t511 => (if t511 = true then ((laws_markIntS.f k t494 1).bind fun bt512 => ((laws_markHartS.f k t497 bt512.1).bind fun bt514 => (if bt514.1 < 0 then (some false) else ((laws_eqIntS.f k t500 t491).bind fun t516 => (if t516 = true then ((laws_markIntS.f k t500 1).bind fun bt517 => ((laws_heldIntS.f k bt517.2 1).bind fun t519 => (if t519 < 0 then (some false) else (if t519 = bt517.1 then ((laws_toIntS.f k l0).bind fun t520 => ((laws_toHartS.f k l1).bind fun t523 => ((impl_Finals.f k t520 t523 a2 a3).bind fun t526 => ((laws_eqIntS.f k t526 t491).bind fun t529 => (if t529 = true then ((laws_heldIntS.f k bt517.2 1).bind fun t530 => (if t530 < 0 then (some false) else (if t530 = bt517.1 then (some true) else (some false)))) else (some false)))))) else (some false))))) else (some false)))))) else (some false)))) else (some false)))) else (some false)))))))))))
theorem laws_FnExactFinals.mono : ∀ a0 a1 a2 a3 k, LeO (laws_FnExactFinals.f k a0 a1 a2 a3) (laws_FnExactFinals.f (k + 1) a0 a1 a2 a3) := by
 intro a0 a1 a2 a3 k
 unfold laws_FnExactFinals.f
 have mo0 := @impl_Finals.mono
 have mo1 := @laws_eqHartS.mono
 have mo2 := @laws_eqIntS.mono
 have mo3 := @laws_heldIntS.mono
 have mo4 := @laws_markHartS.mono
 have mo5 := @laws_markIntS.mono
 have mo6 := @laws_szHartS.mono
 have mo7 := @laws_toHartS.mono
 have mo8 := @laws_toIntS.mono
 have mo9 := @spec_Finals.mono
 exact zL
theorem laws_FnExactFinals.calls (k : Nat) (A0 : Option Addr) (c0 : Nat) (l0 : List Int) (A1 : Option Addr) (c1 : Nat) (l1 : List (S68)) (a2 : Int) (a3 : Int) (r : Bool) (w : World) (hr0 : Kd.C (Kd.int .i64) w A0 l0.length l0) (hc0 : l0.length ≤ c0) (hr1 : Kd.C k68 w A1 l1.length l1) (hc1 : l1.length ≤ c1) (hr_ : r = true) (h : laws_FnExactFinals.f k l0 l1 a2 a3 = some r) :
  Calls Try.prog 8 #[.slice A0 l0.length c0, .slice A1 l1.length c1, .int .i64 a2, .int .i64 a3] w fun e w' => e = .returned (.bool r) ∧ Below w.heap.size w w' := by
 subst hr_
 have HR0 := zM hr0
 have HC0 := zM hc0
 clear hr0 hc0
 have HR1 := zM hr1
 have HC1 := zM hc1
 clear hr1 hc1
 unfold laws_FnExactFinals.f at h
 have H := h
 clear h
 by_cases ci1 : (l0.length : Int) > 1048576
 ·rw [if_pos ci1] at H
  have ci1b0 : decide (1048576 < (l0.length : Int)) = true := decide_eq_true ci1
  have ci1b1 : decide (1048576 < l0.length) = true := decide_eq_true (by omega)
  clear ci1
  have HB := zM (Below.refl w.heap.size w)
  have HZ := zM (Nat.le_refl w.heap.size)
  clear H
  go_enter Try.func8, Try.ntmps8
  go_wp2
  go_ret
  exact ⟨rfl, HB.1⟩
 rw [if_neg ci1] at H
 have ci1b0 : decide (1048576 < (l0.length : Int)) = false := decide_eq_false ci1
 have ci1b1 : decide (1048576 < l0.length) = false := decide_eq_false (by omega)
 clear ci1
 obtain ⟨t484, hA_, H⟩ := Option.bind_eq_some_iff.mp H
 try dsimp only at H
 have AE1 := zM hA_
 clear hA_
 by_cases ci2 : t484 < 0
 ·rw [if_pos ci2] at H
  have ci2b0 : decide (t484 < 0) = true := decide_eq_true ci2
  clear ci2
  have HB := zM (Below.refl w.heap.size w)
  have HZ := zM (Nat.le_refl w.heap.size)
  clear H
  go_enter Try.func8, Try.ntmps8
  go_wp2_with (first | (go_at_call 20; (refine (laws_szHartS.calls k _ _ l1 1048576 t484 _ ((Kd.C_below HR1.1 HB.1)) (HC1.1) AE1.out).mono ?_); rintro e wx1 ⟨rfl, hb⟩; have n_ := zM (show _ ∧ w.heap.size ≤ wx1.heap.size from ⟨HZ.out, hb.size⟩); clear HZ; have HZ := n_; clear n_; have n_ := zM (below_step HB.1 hb); clear HB; have HB := n_; clear n_ hb))
  go_ret
  exact ⟨rfl, HB.1⟩
 rw [if_neg ci2] at H
 have ci2b0 : decide (t484 < 0) = false := decide_eq_false ci2
 clear ci2
 obtain ⟨t485, hA_, H⟩ := Option.bind_eq_some_iff.mp H
 try dsimp only at H
 have AE2 := zM hA_
 clear hA_
 obtain ⟨t488, hA_, H⟩ := Option.bind_eq_some_iff.mp H
 try dsimp only at H
 have AE3 := zM hA_
 clear hA_
 obtain ⟨t491, hA_, H⟩ := Option.bind_eq_some_iff.mp H
 try dsimp only at H
 have AE4 := zM hA_
 clear hA_
 obtain ⟨t494, hA_, H⟩ := Option.bind_eq_some_iff.mp H
 try dsimp only at H
 have AE5 := zM hA_
 clear hA_
 obtain ⟨t497, hA_, H⟩ := Option.bind_eq_some_iff.mp H
 try dsimp only at H
 have AE6 := zM hA_
 clear hA_
 obtain ⟨t500, hA_, H⟩ := Option.bind_eq_some_iff.mp H
 try dsimp only at H
 have AE7 := zM hA_
 clear hA_
 obtain ⟨t503, hA_, H⟩ := Option.bind_eq_some_iff.mp H
 try dsimp only at H
 have AE8 := zM hA_
 clear hA_
 by_cases ci3 : t503 = true
 rotate_left
 ·rw [if_neg ci3] at H
  exact absurd H (by simp)
 rw [if_pos ci3] at H
 subst ci3
 obtain ⟨t504, hA_, H⟩ := Option.bind_eq_some_iff.mp H
 try dsimp only at H
 have AE9 := zM hA_
 clear hA_
 obtain ⟨t507, hA_, H⟩ := Option.bind_eq_some_iff.mp H
 try dsimp only at H
 have AE10 := zM hA_
 clear hA_
 by_cases ci4 : t507 = true
 rotate_left
 ·rw [if_neg ci4] at H
  exact absurd H (by simp)
 rw [if_pos ci4] at H
 subst ci4
 obtain ⟨t508, hA_, H⟩ := Option.bind_eq_some_iff.mp H
 try dsimp only at H
 have AE11 := zM hA_
 clear hA_
 obtain ⟨t511, hA_, H⟩ := Option.bind_eq_some_iff.mp H
 try dsimp only at H
 have AE12 := zM hA_
 clear hA_
 by_cases ci5 : t511 = true
 rotate_left
 ·rw [if_neg ci5] at H
  exact absurd H (by simp)
 rw [if_pos ci5] at H
 subst ci5
 obtain ⟨⟨t512, t513⟩, hA_, H⟩ := Option.bind_eq_some_iff.mp H
 try dsimp only at H
 have AE13 := zM hA_
 clear hA_
 obtain ⟨⟨t514, t515⟩, hA_, H⟩ := Option.bind_eq_some_iff.mp H
 try dsimp only at H
 have AE14 := zM hA_
 clear hA_
 by_cases ci6 : t514 < 0
 ·rw [if_pos ci6] at H
  exact absurd H (by simp)
 rw [if_neg ci6] at H
 have ci6b0 : decide (t514 < 0) = false := decide_eq_false ci6
 clear ci6
 obtain ⟨t516, hA_, H⟩ := Option.bind_eq_some_iff.mp H
 try dsimp only at H
 have AE15 := zM hA_
 clear hA_
 by_cases ci7 : t516 = true
 rotate_left
 ·rw [if_neg ci7] at H
  exact absurd H (by simp)
 rw [if_pos ci7] at H
 subst ci7
 obtain ⟨⟨t517, t518⟩, hA_, H⟩ := Option.bind_eq_some_iff.mp H
 try dsimp only at H
 have AE16 := zM hA_
 clear hA_
 obtain ⟨t519, hA_, H⟩ := Option.bind_eq_some_iff.mp H
 try dsimp only at H
 have AE17 := zM hA_
 clear hA_
 by_cases ci8 : t519 < 0
 ·rw [if_pos ci8] at H
  exact absurd H (by simp)
 rw [if_neg ci8] at H
 have ci8b0 : decide (t519 < 0) = false := decide_eq_false ci8
 clear ci8
 by_cases ci9 : t519 = t517
 rotate_left
 ·rw [if_neg ci9] at H
  exact absurd H (by simp)
 rw [if_pos ci9] at H
 have ci9b0 : (t519 == t517) = true := beq_iff_eq.mpr ci9
 have ci9b1 : (t519 != t517) = false := bne_eq_false_iff_eq.mpr ci9
 clear ci9
 obtain ⟨t520, hA_, H⟩ := Option.bind_eq_some_iff.mp H
 try dsimp only at H
 have AE18 := zM hA_
 clear hA_
 obtain ⟨t523, hA_, H⟩ := Option.bind_eq_some_iff.mp H
 try dsimp only at H
 have AE19 := zM hA_
 clear hA_
 obtain ⟨t526, hA_, H⟩ := Option.bind_eq_some_iff.mp H
 try dsimp only at H
 have AE20 := zM hA_
 clear hA_
 obtain ⟨t529, hA_, H⟩ := Option.bind_eq_some_iff.mp H
 try dsimp only at H
 have AE21 := zM hA_
 clear hA_
 by_cases ci10 : t529 = true
 rotate_left
 ·rw [if_neg ci10] at H
  exact absurd H (by simp)
 rw [if_pos ci10] at H
 subst ci10
 obtain ⟨t530, hA_, H⟩ := Option.bind_eq_some_iff.mp H
 try dsimp only at H
 have AE22 := zM hA_
 clear hA_
 by_cases ci11 : t530 < 0
 ·rw [if_pos ci11] at H
  exact absurd H (by simp)
 rw [if_neg ci11] at H
 have ci11b0 : decide (t530 < 0) = false := decide_eq_false ci11
 clear ci11
 by_cases ci12 : t530 = t517
 rotate_left
 ·rw [if_neg ci12] at H
  exact absurd H (by simp)
 rw [if_pos ci12] at H
 have ci12b0 : (t530 == t517) = true := beq_iff_eq.mpr ci12
 have ci12b1 : (t530 != t517) = false := bne_eq_false_iff_eq.mpr ci12
 clear ci12
 have HB := zM (Below.refl w.heap.size w)
 have HZ := zM (Nat.le_refl w.heap.size)
 clear H
 go_enter Try.func8, Try.ntmps8
 go_wp2_with (first | (go_at_call 20; (refine (laws_szHartS.calls k _ _ l1 1048576 t484 _ ((Kd.C_below HR1.1 HB.1)) (HC1.1) AE1.out).mono ?_); rintro e wx1 ⟨rfl, hb⟩; have n_ := zM (show _ ∧ w.heap.size ≤ wx1.heap.size from ⟨HZ.out, hb.size⟩); clear HZ; have HZ := n_; clear n_; have n_ := zM (below_step HB.1 hb); clear HB; have HB := n_; clear n_ hb))
 go_wp2_with (first | (go_at_call 22; (refine (laws_toIntS.calls k _ _ l0 t485 _ ((Kd.C_below HR0.1 HB.1)) (HC0.1) AE2.out).mono ?_); rintro e wx2 ⟨v486, rfl, ho0, hb⟩; obtain ⟨AHO487, cHO487, e_⟩ := Kd.R_slice ho0; subst e_; have HO487 := zM (iv_O rfl ho0 HB.1.size); clear ho0; have n_ := zM (show _ ∧ wx1.heap.size ≤ wx2.heap.size from ⟨HZ.out, hb.size⟩); clear HZ; have HZ := n_; clear n_; have n_ := zM (below_step HB.1 hb); clear HB; have HB := n_; clear n_ hb))
 go_wp2_with (first | (go_at_call 23; (refine (laws_toHartS.calls k _ _ l1 t488 _ ((Kd.C_below HR1.1 HB.1)) (HC1.1) AE3.out).mono ?_); rintro e wx3 ⟨v489, rfl, ho0, hb⟩; obtain ⟨AHO490, cHO490, e_⟩ := Kd.S_slice ho0; subst e_; have n0_ := zM (Kd.R_below HO487.1 hb); clear HO487; have HO487 := n0_; clear n0_; have HO490 := zM (iv_S ho0 HB.1.size); clear ho0; have n_ := zM (show _ ∧ wx2.heap.size ≤ wx3.heap.size from ⟨HZ.out, hb.size⟩); clear HZ; have HZ := n_; clear n_; have n_ := zM (below_step HB.1 hb); clear HB; have HB := n_; clear n_ hb))
 go_wp2_with (first | (go_at_call 18; (refine (spec_Finals.calls k _ _ t485 _ _ t488 a2 a3 t491 _ ((Kd.R_reads' HO487.1).2.2) ((Kd.R_reads' HO487.1).2.1) ((Kd.S_reads' HO490.1).2.2) ((Kd.S_reads' HO490.1).2.1) AE4.out).mono ?_); rintro e wx4 ⟨v492, rfl, ho0, hb⟩; obtain ⟨AHO493, cHO493, e_⟩ := Kd.R_slice ho0; subst e_; have n0_ := zM (Kd.R_below HO487.1 hb); have n1_ := zM (Kd.S_below HO490.1 hb); clear HO487; clear HO490; have HO487 := n0_; have HO490 := n1_; clear n0_; clear n1_; have HO493 := zM (iv_O rfl ho0 HB.1.size); clear ho0; have n_ := zM (show _ ∧ wx3.heap.size ≤ wx4.heap.size from ⟨HZ.out, hb.size⟩); clear HZ; have HZ := n_; clear n_; have n_ := zM (below_step HB.1 hb); clear HB; have HB := n_; clear n_ hb))
 go_wp2_with (first | (go_at_call 22; (refine (laws_toIntS.calls k _ _ l0 t494 _ ((Kd.C_below HR0.1 HB.1)) (HC0.1) AE5.out).mono ?_); rintro e wx5 ⟨v495, rfl, ho0, hb⟩; obtain ⟨AHO496, cHO496, e_⟩ := Kd.R_slice ho0; subst e_; have n0_ := zM (Kd.R_below HO487.1 hb); have n1_ := zM (Kd.S_below HO490.1 hb); have n2_ := zM (Kd.R_below HO493.1 hb); clear HO487; clear HO490; clear HO493; have HO487 := n0_; have HO490 := n1_; have HO493 := n2_; clear n0_; clear n1_; clear n2_; have HO496 := zM (iv_O rfl ho0 HB.1.size); clear ho0; have n_ := zM (show _ ∧ wx4.heap.size ≤ wx5.heap.size from ⟨HZ.out, hb.size⟩); clear HZ; have HZ := n_; clear n_; have n_ := zM (below_step HB.1 hb); clear HB; have HB := n_; clear n_ hb))
 go_wp2_with (first | (go_at_call 23; (refine (laws_toHartS.calls k _ _ l1 t497 _ ((Kd.C_below HR1.1 HB.1)) (HC1.1) AE6.out).mono ?_); rintro e wx6 ⟨v498, rfl, ho0, hb⟩; obtain ⟨AHO499, cHO499, e_⟩ := Kd.S_slice ho0; subst e_; have n0_ := zM (Kd.R_below HO487.1 hb); have n1_ := zM (Kd.S_below HO490.1 hb); have n2_ := zM (Kd.R_below HO493.1 hb); have n3_ := zM (Kd.R_below HO496.1 hb); clear HO487; clear HO490; clear HO493; clear HO496; have HO487 := n0_; have HO490 := n1_; have HO493 := n2_; have HO496 := n3_; clear n0_; clear n1_; clear n2_; clear n3_; have HO499 := zM (iv_S ho0 HB.1.size); clear ho0; have n_ := zM (show _ ∧ wx5.heap.size ≤ wx6.heap.size from ⟨HZ.out, hb.size⟩); clear HZ; have HZ := n_; clear n_; have n_ := zM (below_step HB.1 hb); clear HB; have HB := n_; clear n_ hb))
 go_wp2_with (first | (go_at_call 17; (refine (impl_Finals.calls k _ _ t494 _ _ t497 a2 a3 t500 _ ((Kd.R_reads' HO496.1).2.2) ((Kd.R_reads' HO496.1).2.1) ((Kd.S_reads' HO499.1).2.2) ((Kd.S_reads' HO499.1).2.1) AE7.out).mono ?_); rintro e wx7 ⟨v501, rfl, ho0, hb⟩; obtain ⟨AHO502, cHO502, e_⟩ := Kd.R_slice ho0; subst e_; have n0_ := zM (Kd.R_below HO487.1 hb); have n1_ := zM (Kd.S_below HO490.1 hb); have n2_ := zM (Kd.R_below HO493.1 hb); have n3_ := zM (Kd.R_below HO496.1 hb); have n4_ := zM (Kd.S_below HO499.1 hb); clear HO487; clear HO490; clear HO493; clear HO496; clear HO499; have HO487 := n0_; have HO490 := n1_; have HO493 := n2_; have HO496 := n3_; have HO499 := n4_; clear n0_; clear n1_; clear n2_; clear n3_; clear n4_; have HO502 := zM (iv_O rfl ho0 HB.1.size); clear ho0; have n_ := zM (show _ ∧ wx6.heap.size ≤ wx7.heap.size from ⟨HZ.out, hb.size⟩); clear HZ; have HZ := n_; clear n_; have n_ := zM (below_step HB.1 hb); clear HB; have HB := n_; clear n_ hb))
 go_wp2_with (first | (go_at_call 26; (refine (laws_eqIntS.calls k _ _ t500 _ _ t491 _ _ ((Kd.R_reads' HO502.1).2.2) ((Kd.R_reads' HO502.1).2.1) ((Kd.R_reads' HO493.1).2.2) ((Kd.R_reads' HO493.1).2.1) AE8.out).mono ?_); rintro e wx8 ⟨rfl, hd_⟩; have hb := hd_.below; clear hd_; have n0_ := zM (Kd.R_below HO487.1 hb); have n1_ := zM (Kd.S_below HO490.1 hb); have n2_ := zM (Kd.R_below HO493.1 hb); have n3_ := zM (Kd.R_below HO496.1 hb); have n4_ := zM (Kd.S_below HO499.1 hb); have n5_ := zM (Kd.R_below HO502.1 hb); clear HO487; clear HO490; clear HO493; clear HO496; clear HO499; clear HO502; have HO487 := n0_; have HO490 := n1_; have HO493 := n2_; have HO496 := n3_; have HO499 := n4_; have HO502 := n5_; clear n0_; clear n1_; clear n2_; clear n3_; clear n4_; clear n5_; have n_ := zM (show _ ∧ wx7.heap.size ≤ wx8.heap.size from ⟨HZ.out, hb.size⟩); clear HZ; have HZ := n_; clear n_; have n_ := zM (below_step HB.1 hb); clear HB; have HB := n_; clear n_ hb))
 go_wp2_with (first | (go_at_call 22; (refine (laws_toIntS.calls k _ _ l0 t504 _ ((Kd.C_below HR0.1 HB.1)) (HC0.1) AE9.out).mono ?_); rintro e wx9 ⟨v505, rfl, ho0, hb⟩; obtain ⟨AHO506, cHO506, e_⟩ := Kd.R_slice ho0; subst e_; have n0_ := zM (Kd.R_below HO487.1 hb); have n1_ := zM (Kd.S_below HO490.1 hb); have n2_ := zM (Kd.R_below HO493.1 hb); have n3_ := zM (Kd.R_below HO496.1 hb); have n4_ := zM (Kd.S_below HO499.1 hb); have n5_ := zM (Kd.R_below HO502.1 hb); clear HO487; clear HO490; clear HO493; clear HO496; clear HO499; clear HO502; have HO487 := n0_; have HO490 := n1_; have HO493 := n2_; have HO496 := n3_; have HO499 := n4_; have HO502 := n5_; clear n0_; clear n1_; clear n2_; clear n3_; clear n4_; clear n5_; have HO506 := zM (iv_O rfl ho0 HB.1.size); clear ho0; have n_ := zM (show _ ∧ wx8.heap.size ≤ wx9.heap.size from ⟨HZ.out, hb.size⟩); clear HZ; have HZ := n_; clear n_; have n_ := zM (below_step HB.1 hb); clear HB; have HB := n_; clear n_ hb))
 go_wp2_with (first | (go_at_call 26; (refine (laws_eqIntS.calls k _ _ t494 _ _ t504 _ _ ((Kd.R_reads' HO496.1).2.2) ((Kd.R_reads' HO496.1).2.1) ((Kd.R_reads' HO506.1).2.2) ((Kd.R_reads' HO506.1).2.1) AE10.out).mono ?_); rintro e wx10 ⟨rfl, hd_⟩; have hb := hd_.below; clear hd_; have n0_ := zM (Kd.R_below HO487.1 hb); have n1_ := zM (Kd.S_below HO490.1 hb); have n2_ := zM (Kd.R_below HO493.1 hb); have n3_ := zM (Kd.R_below HO496.1 hb); have n4_ := zM (Kd.S_below HO499.1 hb); have n5_ := zM (Kd.R_below HO502.1 hb); have n6_ := zM (Kd.R_below HO506.1 hb); clear HO487; clear HO490; clear HO493; clear HO496; clear HO499; clear HO502; clear HO506; have HO487 := n0_; have HO490 := n1_; have HO493 := n2_; have HO496 := n3_; have HO499 := n4_; have HO502 := n5_; have HO506 := n6_; clear n0_; clear n1_; clear n2_; clear n3_; clear n4_; clear n5_; clear n6_; have n_ := zM (show _ ∧ wx9.heap.size ≤ wx10.heap.size from ⟨HZ.out, hb.size⟩); clear HZ; have HZ := n_; clear n_; have n_ := zM (below_step HB.1 hb); clear HB; have HB := n_; clear n_ hb))
 go_wp2_with (first | (go_at_call 23; (refine (laws_toHartS.calls k _ _ l1 t508 _ ((Kd.C_below HR1.1 HB.1)) (HC1.1) AE11.out).mono ?_); rintro e wx11 ⟨v509, rfl, ho0, hb⟩; obtain ⟨AHO510, cHO510, e_⟩ := Kd.S_slice ho0; subst e_; have n0_ := zM (Kd.R_below HO487.1 hb); have n1_ := zM (Kd.S_below HO490.1 hb); have n2_ := zM (Kd.R_below HO493.1 hb); have n3_ := zM (Kd.R_below HO496.1 hb); have n4_ := zM (Kd.S_below HO499.1 hb); have n5_ := zM (Kd.R_below HO502.1 hb); have n6_ := zM (Kd.R_below HO506.1 hb); clear HO487; clear HO490; clear HO493; clear HO496; clear HO499; clear HO502; clear HO506; have HO487 := n0_; have HO490 := n1_; have HO493 := n2_; have HO496 := n3_; have HO499 := n4_; have HO502 := n5_; have HO506 := n6_; clear n0_; clear n1_; clear n2_; clear n3_; clear n4_; clear n5_; clear n6_; have HO510 := zM (iv_S ho0 HB.1.size); clear ho0; have n_ := zM (show _ ∧ wx10.heap.size ≤ wx11.heap.size from ⟨HZ.out, hb.size⟩); clear HZ; have HZ := n_; clear n_; have n_ := zM (below_step HB.1 hb); clear HB; have HB := n_; clear n_ hb))
 go_wp2_with (first | (go_at_call 27; (refine (laws_eqHartS.calls k _ _ t497 _ _ t508 _ _ ((Kd.S_reads' HO499.1).2.2) ((Kd.S_reads' HO499.1).2.1) ((Kd.S_reads' HO510.1).2.2) ((Kd.S_reads' HO510.1).2.1) AE12.out).mono ?_); rintro e wx12 ⟨rfl, hb⟩; have n0_ := zM (Kd.R_below HO487.1 hb); have n1_ := zM (Kd.S_below HO490.1 hb); have n2_ := zM (Kd.R_below HO493.1 hb); have n3_ := zM (Kd.R_below HO496.1 hb); have n4_ := zM (Kd.S_below HO499.1 hb); have n5_ := zM (Kd.R_below HO502.1 hb); have n6_ := zM (Kd.R_below HO506.1 hb); have n7_ := zM (Kd.S_below HO510.1 hb); clear HO487; clear HO490; clear HO493; clear HO496; clear HO499; clear HO502; clear HO506; clear HO510; have HO487 := n0_; have HO490 := n1_; have HO493 := n2_; have HO496 := n3_; have HO499 := n4_; have HO502 := n5_; have HO506 := n6_; have HO510 := n7_; clear n0_; clear n1_; clear n2_; clear n3_; clear n4_; clear n5_; clear n6_; clear n7_; have n_ := zM (show _ ∧ wx11.heap.size ≤ wx12.heap.size from ⟨HZ.out, hb.size⟩); clear HZ; have HZ := n_; clear n_; have n_ := zM (below_step HB.1 hb); clear HB; have HB := n_; clear n_ hb))
 go_wp2_with (first | (go_at_call 28; (refine (laws_markIntS.calls k _ (.slice AHO496 t494.length cHO496) t494 1 t512 t513 w _ HB.1 (HO496.1) AE13.out).mono ?_); rintro e wx13 ⟨rfl, hy0, hb, hkp⟩; have n0_ := zM (Kd.R_kept HO487.1 hkp (fun k_ h1_ h2_ => (by have hz_ := HZ.out; have a_ := h1_.1; have b_ := h1_.2.1; have c_ := h2_.1; have d_ := h2_.2.1; clear h1_ h2_; omega))); have n1_ := zM (Kd.S_kept HO490.1 hkp (fun k_ h1_ h2_ => (by have hz_ := HZ.out; have a_ := h1_.1; have b_ := h1_.2.1; have c_ := h2_.1; have d_ := h2_.2.1; clear h1_ h2_; omega))); have n2_ := zM (Kd.R_kept HO493.1 hkp (fun k_ h1_ h2_ => (by have hz_ := HZ.out; have a_ := h1_.1; have b_ := h1_.2.1; have c_ := h2_.1; have d_ := h2_.2.1; clear h1_ h2_; omega))); have n3_ := zM (Kd.S_kept HO499.1 hkp (fun k_ h1_ h2_ => (by have hz_ := HZ.out; have a_ := h1_.1; have b_ := h1_.2.1; have c_ := h2_.1; have d_ := h2_.2.1; clear h1_ h2_; omega))); have n4_ := zM (Kd.R_kept HO502.1 hkp (fun k_ h1_ h2_ => (by have hz_ := HZ.out; have a_ := h1_.1; have b_ := h1_.2.1; have c_ := h2_.1; have d_ := h2_.2.1; clear h1_ h2_; omega))); have n5_ := zM (Kd.R_kept HO506.1 hkp (fun k_ h1_ h2_ => (by have hz_ := HZ.out; have a_ := h1_.1; have b_ := h1_.2.1; have c_ := h2_.1; have d_ := h2_.2.1; clear h1_ h2_; omega))); have n6_ := zM (Kd.S_kept HO510.1 hkp (fun k_ h1_ h2_ => (by have hz_ := HZ.out; have a_ := h1_.1; have b_ := h1_.2.1; have c_ := h2_.1; have d_ := h2_.2.1; clear h1_ h2_; omega))); clear HO487; clear HO490; clear HO493; clear HO499; clear HO502; clear HO506; clear HO510; have HO487 := n0_; have HO490 := n1_; have HO493 := n2_; have HO499 := n3_; have HO502 := n4_; have HO506 := n5_; have HO510 := n6_; clear n0_; clear n1_; clear n2_; clear n3_; clear n4_; clear n5_; clear n6_; have n_ := zM (Kd.R_reok rfl hy0 (fun k_ e_ => HO496.1.1 k_ e_)); have hl_ := (Kd.R_reads' n_.out).1; rw [hl_] at n_ ⊢; clear hl_ HO496; have HO496 := n_; clear n_; have n_ := zM (show _ ∧ wx12.heap.size ≤ wx13.heap.size from ⟨HZ.out, hkp.1⟩); clear HZ; have HZ := n_; clear n_; have n_ := zM hb; clear HB; have HB := n_; clear n_ hb hkp))
 go_wp2_with (first | (go_at_call 29; (refine (laws_markHartS.calls k _ (.slice AHO499 t497.length cHO499) t497 t512 t514 t515 w _ HB.1 (HO499.1) AE14.out).mono ?_); rintro e wx14 ⟨rfl, hy0, hb, hkp⟩; have n0_ := zM (Kd.R_kept HO487.1 hkp (fun k_ h1_ h2_ => (by have hz_ := HZ.out; have a_ := h1_.1; have b_ := h1_.2.1; have c_ := h2_.1; have d_ := h2_.2.1; clear h1_ h2_; omega))); have n1_ := zM (Kd.S_kept HO490.1 hkp (fun k_ h1_ h2_ => (by have hz_ := HZ.out; have a_ := h1_.1; have b_ := h1_.2.1; have c_ := h2_.1; have d_ := h2_.2.1; clear h1_ h2_; omega))); have n2_ := zM (Kd.R_kept HO493.1 hkp (fun k_ h1_ h2_ => (by have hz_ := HZ.out; have a_ := h1_.1; have b_ := h1_.2.1; have c_ := h2_.1; have d_ := h2_.2.1; clear h1_ h2_; omega))); have n3_ := zM (Kd.R_kept HO496.1 hkp (fun k_ h1_ h2_ => (by have hz_ := HZ.out; have a_ := h1_.1; have b_ := h1_.2.1; have c_ := h2_.1; have d_ := h2_.2.1; clear h1_ h2_; omega))); have n4_ := zM (Kd.R_kept HO502.1 hkp (fun k_ h1_ h2_ => (by have hz_ := HZ.out; have a_ := h1_.1; have b_ := h1_.2.1; have c_ := h2_.1; have d_ := h2_.2.1; clear h1_ h2_; omega))); have n5_ := zM (Kd.R_kept HO506.1 hkp (fun k_ h1_ h2_ => (by have hz_ := HZ.out; have a_ := h1_.1; have b_ := h1_.2.1; have c_ := h2_.1; have d_ := h2_.2.1; clear h1_ h2_; omega))); have n6_ := zM (Kd.S_kept HO510.1 hkp (fun k_ h1_ h2_ => (by have hz_ := HZ.out; have a_ := h1_.1; have b_ := h1_.2.1; have c_ := h2_.1; have d_ := h2_.2.1; clear h1_ h2_; omega))); clear HO487; clear HO490; clear HO493; clear HO496; clear HO502; clear HO506; clear HO510; have HO487 := n0_; have HO490 := n1_; have HO493 := n2_; have HO496 := n3_; have HO502 := n4_; have HO506 := n5_; have HO510 := n6_; clear n0_; clear n1_; clear n2_; clear n3_; clear n4_; clear n5_; clear n6_; have n_ := zM hy0; have hl_ := (Kd.S_reads' n_.out).1; rw [hl_] at n_ ⊢; clear hl_ HO499; have HO499 := n_; clear n_; have n_ := zM (show _ ∧ wx13.heap.size ≤ wx14.heap.size from ⟨HZ.out, hkp.1⟩); clear HZ; have HZ := n_; clear n_; have n_ := zM hb; clear HB; have HB := n_; clear n_ hb hkp))
 go_wp2_with (first | (go_at_call 26; (refine (laws_eqIntS.calls k _ _ t500 _ _ t491 _ _ ((Kd.R_reads' HO502.1).2.2) ((Kd.R_reads' HO502.1).2.1) ((Kd.R_reads' HO493.1).2.2) ((Kd.R_reads' HO493.1).2.1) AE15.out).mono ?_); rintro e wx15 ⟨rfl, hd_⟩; have hb := hd_.below; clear hd_; have n0_ := zM (Kd.R_below HO487.1 hb); have n1_ := zM (Kd.S_below HO490.1 hb); have n2_ := zM (Kd.R_below HO493.1 hb); have n3_ := zM (Kd.R_below HO496.1 hb); have n4_ := zM (Kd.S_below HO499.1 hb); have n5_ := zM (Kd.R_below HO502.1 hb); have n6_ := zM (Kd.R_below HO506.1 hb); have n7_ := zM (Kd.S_below HO510.1 hb); clear HO487; clear HO490; clear HO493; clear HO496; clear HO499; clear HO502; clear HO506; clear HO510; have HO487 := n0_; have HO490 := n1_; have HO493 := n2_; have HO496 := n3_; have HO499 := n4_; have HO502 := n5_; have HO506 := n6_; have HO510 := n7_; clear n0_; clear n1_; clear n2_; clear n3_; clear n4_; clear n5_; clear n6_; clear n7_; have n_ := zM (show _ ∧ wx14.heap.size ≤ wx15.heap.size from ⟨HZ.out, hb.size⟩); clear HZ; have HZ := n_; clear n_; have n_ := zM (below_step HB.1 hb); clear HB; have HB := n_; clear n_ hb))
 go_wp2_with (first | (go_at_call 28; (refine (laws_markIntS.calls k _ (.slice AHO502 t500.length cHO502) t500 1 t517 t518 w _ HB.1 (HO502.1) AE16.out).mono ?_); rintro e wx16 ⟨rfl, hy0, hb, hkp⟩; have n0_ := zM (Kd.R_kept HO487.1 hkp (fun k_ h1_ h2_ => (by have hz_ := HZ.out; have a_ := h1_.1; have b_ := h1_.2.1; have c_ := h2_.1; have d_ := h2_.2.1; clear h1_ h2_; omega))); have n1_ := zM (Kd.S_kept HO490.1 hkp (fun k_ h1_ h2_ => (by have hz_ := HZ.out; have a_ := h1_.1; have b_ := h1_.2.1; have c_ := h2_.1; have d_ := h2_.2.1; clear h1_ h2_; omega))); have n2_ := zM (Kd.R_kept HO493.1 hkp (fun k_ h1_ h2_ => (by have hz_ := HZ.out; have a_ := h1_.1; have b_ := h1_.2.1; have c_ := h2_.1; have d_ := h2_.2.1; clear h1_ h2_; omega))); have n3_ := zM (Kd.R_kept HO496.1 hkp (fun k_ h1_ h2_ => (by have hz_ := HZ.out; have a_ := h1_.1; have b_ := h1_.2.1; have c_ := h2_.1; have d_ := h2_.2.1; clear h1_ h2_; omega))); have n4_ := zM (Kd.S_kept HO499.1 hkp (fun k_ h1_ h2_ => (by have hz_ := HZ.out; have a_ := h1_.1; have b_ := h1_.2.1; have c_ := h2_.1; have d_ := h2_.2.1; clear h1_ h2_; omega))); have n5_ := zM (Kd.R_kept HO506.1 hkp (fun k_ h1_ h2_ => (by have hz_ := HZ.out; have a_ := h1_.1; have b_ := h1_.2.1; have c_ := h2_.1; have d_ := h2_.2.1; clear h1_ h2_; omega))); have n6_ := zM (Kd.S_kept HO510.1 hkp (fun k_ h1_ h2_ => (by have hz_ := HZ.out; have a_ := h1_.1; have b_ := h1_.2.1; have c_ := h2_.1; have d_ := h2_.2.1; clear h1_ h2_; omega))); clear HO487; clear HO490; clear HO493; clear HO496; clear HO499; clear HO506; clear HO510; have HO487 := n0_; have HO490 := n1_; have HO493 := n2_; have HO496 := n3_; have HO499 := n4_; have HO506 := n5_; have HO510 := n6_; clear n0_; clear n1_; clear n2_; clear n3_; clear n4_; clear n5_; clear n6_; have n_ := zM (Kd.R_reok rfl hy0 (fun k_ e_ => HO502.1.1 k_ e_)); have hl_ := (Kd.R_reads' n_.out).1; rw [hl_] at n_ ⊢; clear hl_ HO502; have HO502 := n_; clear n_; have n_ := zM (show _ ∧ wx15.heap.size ≤ wx16.heap.size from ⟨HZ.out, hkp.1⟩); clear HZ; have HZ := n_; clear n_; have n_ := zM hb; clear HB; have HB := n_; clear n_ hb hkp))
 go_wp2_with (first | (go_at_call 36; (refine (laws_heldIntS.calls k _ _ t518 1 t519 _ ((Kd.R_reads' HO502.1).2.2) ((Kd.R_reads' HO502.1).2.1) AE17.out).mono ?_); rintro e wx17 ⟨rfl, hd_⟩; have hb := hd_.below; clear hd_; have n0_ := zM (Kd.R_below HO487.1 hb); have n1_ := zM (Kd.S_below HO490.1 hb); have n2_ := zM (Kd.R_below HO493.1 hb); have n3_ := zM (Kd.R_below HO496.1 hb); have n4_ := zM (Kd.S_below HO499.1 hb); have n5_ := zM (Kd.R_below HO502.1 hb); have n6_ := zM (Kd.R_below HO506.1 hb); have n7_ := zM (Kd.S_below HO510.1 hb); clear HO487; clear HO490; clear HO493; clear HO496; clear HO499; clear HO502; clear HO506; clear HO510; have HO487 := n0_; have HO490 := n1_; have HO493 := n2_; have HO496 := n3_; have HO499 := n4_; have HO502 := n5_; have HO506 := n6_; have HO510 := n7_; clear n0_; clear n1_; clear n2_; clear n3_; clear n4_; clear n5_; clear n6_; clear n7_; have n_ := zM (show _ ∧ wx16.heap.size ≤ wx17.heap.size from ⟨HZ.out, hb.size⟩); clear HZ; have HZ := n_; clear n_; have n_ := zM (below_step HB.1 hb); clear HB; have HB := n_; clear n_ hb))
 go_wp2_with (first | (go_at_call 22; (refine (laws_toIntS.calls k _ _ l0 t520 _ ((Kd.C_below HR0.1 HB.1)) (HC0.1) AE18.out).mono ?_); rintro e wx18 ⟨v521, rfl, ho0, hb⟩; obtain ⟨AHO522, cHO522, e_⟩ := Kd.R_slice ho0; subst e_; have n0_ := zM (Kd.R_below HO487.1 hb); have n1_ := zM (Kd.S_below HO490.1 hb); have n2_ := zM (Kd.R_below HO493.1 hb); have n3_ := zM (Kd.R_below HO496.1 hb); have n4_ := zM (Kd.S_below HO499.1 hb); have n5_ := zM (Kd.R_below HO502.1 hb); have n6_ := zM (Kd.R_below HO506.1 hb); have n7_ := zM (Kd.S_below HO510.1 hb); clear HO487; clear HO490; clear HO493; clear HO496; clear HO499; clear HO502; clear HO506; clear HO510; have HO487 := n0_; have HO490 := n1_; have HO493 := n2_; have HO496 := n3_; have HO499 := n4_; have HO502 := n5_; have HO506 := n6_; have HO510 := n7_; clear n0_; clear n1_; clear n2_; clear n3_; clear n4_; clear n5_; clear n6_; clear n7_; have HO522 := zM (iv_O rfl ho0 HB.1.size); clear ho0; have n_ := zM (show _ ∧ wx17.heap.size ≤ wx18.heap.size from ⟨HZ.out, hb.size⟩); clear HZ; have HZ := n_; clear n_; have n_ := zM (below_step HB.1 hb); clear HB; have HB := n_; clear n_ hb))
 go_wp2_with (first | (go_at_call 23; (refine (laws_toHartS.calls k _ _ l1 t523 _ ((Kd.C_below HR1.1 HB.1)) (HC1.1) AE19.out).mono ?_); rintro e wx19 ⟨v524, rfl, ho0, hb⟩; obtain ⟨AHO525, cHO525, e_⟩ := Kd.S_slice ho0; subst e_; have n0_ := zM (Kd.R_below HO487.1 hb); have n1_ := zM (Kd.S_below HO490.1 hb); have n2_ := zM (Kd.R_below HO493.1 hb); have n3_ := zM (Kd.R_below HO496.1 hb); have n4_ := zM (Kd.S_below HO499.1 hb); have n5_ := zM (Kd.R_below HO502.1 hb); have n6_ := zM (Kd.R_below HO506.1 hb); have n7_ := zM (Kd.S_below HO510.1 hb); have n8_ := zM (Kd.R_below HO522.1 hb); clear HO487; clear HO490; clear HO493; clear HO496; clear HO499; clear HO502; clear HO506; clear HO510; clear HO522; have HO487 := n0_; have HO490 := n1_; have HO493 := n2_; have HO496 := n3_; have HO499 := n4_; have HO502 := n5_; have HO506 := n6_; have HO510 := n7_; have HO522 := n8_; clear n0_; clear n1_; clear n2_; clear n3_; clear n4_; clear n5_; clear n6_; clear n7_; clear n8_; have HO525 := zM (iv_S ho0 HB.1.size); clear ho0; have n_ := zM (show _ ∧ wx18.heap.size ≤ wx19.heap.size from ⟨HZ.out, hb.size⟩); clear HZ; have HZ := n_; clear n_; have n_ := zM (below_step HB.1 hb); clear HB; have HB := n_; clear n_ hb))
 go_wp2_with (first | (go_at_call 17; (refine (impl_Finals.calls k _ _ t520 _ _ t523 a2 a3 t526 _ ((Kd.R_reads' HO522.1).2.2) ((Kd.R_reads' HO522.1).2.1) ((Kd.S_reads' HO525.1).2.2) ((Kd.S_reads' HO525.1).2.1) AE20.out).mono ?_); rintro e wx20 ⟨v527, rfl, ho0, hb⟩; obtain ⟨AHO528, cHO528, e_⟩ := Kd.R_slice ho0; subst e_; have n0_ := zM (Kd.R_below HO487.1 hb); have n1_ := zM (Kd.S_below HO490.1 hb); have n2_ := zM (Kd.R_below HO493.1 hb); have n3_ := zM (Kd.R_below HO496.1 hb); have n4_ := zM (Kd.S_below HO499.1 hb); have n5_ := zM (Kd.R_below HO502.1 hb); have n6_ := zM (Kd.R_below HO506.1 hb); have n7_ := zM (Kd.S_below HO510.1 hb); have n8_ := zM (Kd.R_below HO522.1 hb); have n9_ := zM (Kd.S_below HO525.1 hb); clear HO487; clear HO490; clear HO493; clear HO496; clear HO499; clear HO502; clear HO506; clear HO510; clear HO522; clear HO525; have HO487 := n0_; have HO490 := n1_; have HO493 := n2_; have HO496 := n3_; have HO499 := n4_; have HO502 := n5_; have HO506 := n6_; have HO510 := n7_; have HO522 := n8_; have HO525 := n9_; clear n0_; clear n1_; clear n2_; clear n3_; clear n4_; clear n5_; clear n6_; clear n7_; clear n8_; clear n9_; have HO528 := zM (iv_O rfl ho0 HB.1.size); clear ho0; have n_ := zM (show _ ∧ wx19.heap.size ≤ wx20.heap.size from ⟨HZ.out, hb.size⟩); clear HZ; have HZ := n_; clear n_; have n_ := zM (below_step HB.1 hb); clear HB; have HB := n_; clear n_ hb))
 go_wp2_with (first | (go_at_call 26; (refine (laws_eqIntS.calls k _ _ t526 _ _ t491 _ _ ((Kd.R_reads' HO528.1).2.2) ((Kd.R_reads' HO528.1).2.1) ((Kd.R_reads' HO493.1).2.2) ((Kd.R_reads' HO493.1).2.1) AE21.out).mono ?_); rintro e wx21 ⟨rfl, hd_⟩; have hb := hd_.below; clear hd_; have n0_ := zM (Kd.R_below HO487.1 hb); have n1_ := zM (Kd.S_below HO490.1 hb); have n2_ := zM (Kd.R_below HO493.1 hb); have n3_ := zM (Kd.R_below HO496.1 hb); have n4_ := zM (Kd.S_below HO499.1 hb); have n5_ := zM (Kd.R_below HO502.1 hb); have n6_ := zM (Kd.R_below HO506.1 hb); have n7_ := zM (Kd.S_below HO510.1 hb); have n8_ := zM (Kd.R_below HO522.1 hb); have n9_ := zM (Kd.S_below HO525.1 hb); have n10_ := zM (Kd.R_below HO528.1 hb); clear HO487; clear HO490; clear HO493; clear HO496; clear HO499; clear HO502; clear HO506; clear HO510; clear HO522; clear HO525; clear HO528; have HO487 := n0_; have HO490 := n1_; have HO493 := n2_; have HO496 := n3_; have HO499 := n4_; have HO502 := n5_; have HO506 := n6_; have HO510 := n7_; have HO522 := n8_; have HO525 := n9_; have HO528 := n10_; clear n0_; clear n1_; clear n2_; clear n3_; clear n4_; clear n5_; clear n6_; clear n7_; clear n8_; clear n9_; clear n10_; have n_ := zM (show _ ∧ wx20.heap.size ≤ wx21.heap.size from ⟨HZ.out, hb.size⟩); clear HZ; have HZ := n_; clear n_; have n_ := zM (below_step HB.1 hb); clear HB; have HB := n_; clear n_ hb))
 go_wp2_with (first | (go_at_call 36; (refine (laws_heldIntS.calls k _ _ t518 1 t530 _ ((Kd.R_reads' HO502.1).2.2) ((Kd.R_reads' HO502.1).2.1) AE22.out).mono ?_); rintro e wx22 ⟨rfl, hd_⟩; have hb := hd_.below; clear hd_; have n0_ := zM (Kd.R_below HO487.1 hb); have n1_ := zM (Kd.S_below HO490.1 hb); have n2_ := zM (Kd.R_below HO493.1 hb); have n3_ := zM (Kd.R_below HO496.1 hb); have n4_ := zM (Kd.S_below HO499.1 hb); have n5_ := zM (Kd.R_below HO502.1 hb); have n6_ := zM (Kd.R_below HO506.1 hb); have n7_ := zM (Kd.S_below HO510.1 hb); have n8_ := zM (Kd.R_below HO522.1 hb); have n9_ := zM (Kd.S_below HO525.1 hb); have n10_ := zM (Kd.R_below HO528.1 hb); clear HO487; clear HO490; clear HO493; clear HO496; clear HO499; clear HO502; clear HO506; clear HO510; clear HO522; clear HO525; clear HO528; have HO487 := n0_; have HO490 := n1_; have HO493 := n2_; have HO496 := n3_; have HO499 := n4_; have HO502 := n5_; have HO506 := n6_; have HO510 := n7_; have HO522 := n8_; have HO525 := n9_; have HO528 := n10_; clear n0_; clear n1_; clear n2_; clear n3_; clear n4_; clear n5_; clear n6_; clear n7_; clear n8_; clear n9_; clear n10_; have n_ := zM (show _ ∧ wx21.heap.size ≤ wx22.heap.size from ⟨HZ.out, hb.size⟩); clear HZ; have HZ := n_; clear n_; have n_ := zM (below_step HB.1 hb); clear HB; have HB := n_; clear n_ hb))
 go_ret
 exact ⟨rfl, HB.1⟩

/-- THE ONE PURE STATEMENT of laws_FnExactFinals: yours. -/
def laws_FnExactFinals.Pure : Prop := ∀ (l0 : List Int) (l1 : List (S68)) (a2 : Int) (a3 : Int), (l0.length ≤ maxLen ∧ ∀ y1_ ∈ l0, (Lit.int .i64 y1_).wf = true) → (l1.length ≤ maxLen ∧ ∀ y2_ ∈ l1, ((y2_.f0.length ≤ maxLen ∧ ∀ y3_ ∈ y2_.f0, (Lit.int .i64 y3_).wf = true) ∧ ((Lit.int .i64 y2_.f1).wf = true ∧ (Lit.int .i64 y2_.f2).wf = true))) → (Lit.int .i64 a2).wf = true → (Lit.int .i64 a3).wf = true → ∃ k, laws_FnExactFinals.f k l0 l1 a2 a3 = some true
theorem laws_FnExactFinals.walk (P : laws_FnExactFinals.Pure) (A0 : Option Addr) (c0 : Nat) (l0 : List Int) (A1 : Option Addr) (c1 : Nat) (l1 : List (S68)) (a2 : Int) (a3 : Int) (w : World) (hr0 : Kd.C (Kd.int .i64) w A0 l0.length l0) (hc0 : l0.length ≤ c0) (hr1 : Kd.C k68 w A1 l1.length l1) (hc1 : l1.length ≤ c1) (g0 : (l0.length ≤ maxLen ∧ ∀ y1_ ∈ l0, (Lit.int .i64 y1_).wf = true)) (g1 : (l1.length ≤ maxLen ∧ ∀ y2_ ∈ l1, ((y2_.f0.length ≤ maxLen ∧ ∀ y3_ ∈ y2_.f0, (Lit.int .i64 y3_).wf = true) ∧ ((Lit.int .i64 y2_.f1).wf = true ∧ (Lit.int .i64 y2_.f2).wf = true)))) (g2 : (Lit.int .i64 a2).wf = true) (g3 : (Lit.int .i64 a3).wf = true) :
  Calls Try.prog 8 #[.slice A0 l0.length c0, .slice A1 l1.length c1, .int .i64 a2, .int .i64 a3] w fun e w' => e = .returned (.bool true) ∧ Below w.heap.size w w' := by
 obtain ⟨k, h⟩ := P l0 l1 a2 a3 g0 g1 g2 g3
 exact laws_FnExactFinals.calls k A0 c0 l0 A1 c1 l1 a2 a3 true w hr0 hc0 hr1 hc1 rfl h

end Go.Proofs.Ytnjdepmlpdjghaa.PFnExactFinals
