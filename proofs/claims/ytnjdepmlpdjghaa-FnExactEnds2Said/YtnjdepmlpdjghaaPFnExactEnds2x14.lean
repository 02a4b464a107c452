-- made by wip/tools/myprint.py out of the seat's translation
import Derived.Test.YtnjdepmlpdjghaaPFnExactEnds2x0
import Derived.Test.YtnjdepmlpdjghaaPFnExactEnds2x2
import Derived.Test.YtnjdepmlpdjghaaPFnExactEnds2x6
import Derived.Test.YtnjdepmlpdjghaaPFnExactEnds2x7
import Derived.Test.YtnjdepmlpdjghaaPFnExactEnds2x12
import Derived.Test.YtnjdepmlpdjghaaPFnExactEnds2x13
namespace Go.Proofs.Ytnjdepmlpdjghaa.PFnExactEnds2
open Go.RowKit Go.Proofs.YtnjdepmlpdjghaaW.PrintWords Go.Proofs.YtnjdepmlpdjghaaW.PrintLast Go.Proofs.YtnjdepmlpdjghaaW.PrintMore
attribute [local go_sem] max2_int min2_int max_two min_two max_three min_three max_four min_four   -- for this text's walks alone
set_option linter.unusedVariables false
set_option linter.unusedSimpArgs false
set_option maxHeartbeats 8000000
set_option maxRecDepth 100000

/-! ### laws_markIntSS: function 30 -/
def laws_markIntSS.l0 : Nat → (List (List Int)) → Int → Int → Option (Int × (List (List Int)))
 | 0, _, _, _ => none
 | k + 1, x0, x1, x5 => if x5 < (x0.length : Int) then (if 0 ≤ x5 then ((laws_markIntS.f k (x0.getD (x5 : Int).toNat []) x1).bind fun b => laws_markIntSS.l0 k (x0.set (x5 : Int).toNat b.2) b.1 (wrap64 (x5 + 1))) else none) else some (x1, x0)
def laws_markIntSS.f (k : Nat) (l0 : (List (List Int))) (a1 : Int) : Option (Int × (List (List Int))) := laws_markIntSS.l0 k l0 a1 0
theorem laws_markIntSS.mono_l : ∀ k, (∀ y0 y1 y2, LeO (laws_markIntSS.l0 k y0 y1 y2) (laws_markIntSS.l0 (k + 1) y0 y1 y2))
 | 0 => fun _ _ _ r h => by simp [laws_markIntSS.l0] at h
 | k + 1 => by
  have ih0 := laws_markIntSS.mono_l k
  intro y0 y1 y2
  unfold laws_markIntSS.l0
  have mo0 := @laws_markIntS.mono
  exact zL
theorem laws_markIntSS.mono : ∀ a0 a1 k, LeO (laws_markIntSS.f k a0 a1) (laws_markIntSS.f (k + 1) a0 a1) := fun a0 a1 k => laws_markIntSS.mono_l k _ _ _
theorem laws_markIntSS.calls (k : Nat) (P0_ : Nat → Prop) (u9000_ : Value) (l0 : (List (List Int))) (a1 : Int) (r1 : Int) (r2 : (List (List Int))) (w0 w : World) (hB : Below w0.heap.size w0 w) (ho0 : Kd.S (Kd.slice 3 (Kd.int .i64)) 24 w w0.heap.size P0_ u9000_ l0) (h : laws_markIntSS.f k l0 a1 = some (r1, r2)) :
  Calls Try.prog 30 #[u9000_, .int .i64 a1] w fun e w' => e = .returned (.int .i64 r1) ∧ Kd.S (Kd.slice 3 (Kd.int .i64)) 24 w' w0.heap.size P0_ u9000_ r2 ∧ Below w0.heap.size w0 w' ∧ Kept w w' (fun k_ => P0_ k_) := by
 have H0 := zM (show laws_markIntSS.l0 k l0 a1 0 = some (r1, r2) from h)
 have HS := zM ho0
 have HB := zM hB
 have HW := zM hB.size
 have hn9 : l0.length ≤ 9223372036854775807 := (by obtain ⟨A, c, _, _, hC⟩ := Kd.S_reads ho0; exact hC.2.1)
 have HL := zM hn9
 clear h hB hn9
 rcases Nat.eq_zero_or_pos l0.length with hz | hp
 ·obtain rfl := List.eq_nil_of_length_eq_zero hz
  obtain ⟨A, c, rfl⟩ := Kd.S_slice ho0
  clear ho0 hz
  have hr : r1 = a1 ∧ r2 = [] := by
   have h := H0.out
   cases k with
   | zero => simp [laws_markIntSS.l0] at h
   | succ k => simp [laws_markIntSS.l0] at h; exact ⟨h.1.symm, h.2⟩
  obtain ⟨rfl, rfl⟩ := hr
  go_enter Try.func30, Try.ntmps30
  go_wp2
  go_loopg [1, 5] 1 (fun kq v1 v5 w' => v1 = .int .i64 r1 ∧ v5 = .int .i64 0 ∧ w' = w)
  case atStart => exact ⟨rfl, rfl, rfl⟩
  case round =>
   obtain ⟨rfl, rfl, rfl⟩ := hrel
   go_wp2
   go_ret
   exact ⟨rfl, HS.out, HB.1, Kept.refl _ _⟩
 ·obtain ⟨g, cap, rfl, hg1, hg2, _⟩ := Kd.S_form ho0 hp
  have HG := zM hg1
  have hPg : P0_ g := (Kd.S_R ho0).1 g rfl
  have HPG := zM hPg
  clear ho0 hp hPg hg1 hg2
  go_enter Try.func30, Try.ntmps30
  go_wp2
  go_loopg [1, 5] k (fun kq v1 v5 w' => ∃ (x0 : (List (List Int))) (x1 x5 : Int), v1 = .int .i64 x1 ∧ v5 = .int .i64 x5 ∧ Aside0 (laws_markIntSS.l0 kq x0 x1 x5 = some (r1, r2)) ∧ Aside0 (x0.length = l0.length) ∧ Aside0 (Kd.S (Kd.slice 3 (Kd.int .i64)) 24 w' w0.heap.size P0_ (.slice (some ⟨g, 0, none⟩) l0.length cap) x0) ∧ Aside0 (Below w0.heap.size w0 w') ∧ Aside0 (Kept w w' P0_))
  case atStart => exact ⟨l0, a1, 0, rfl, rfl, ⟨H0.out⟩, ⟨rfl⟩, ⟨HS.out⟩, ⟨HB.1⟩, ⟨Kept.refl _ _⟩⟩
  case round =>
   clear HS HB H0
   obtain ⟨x0, x1, x5, rfl, rfl, H0, HX, HS, HB, HK⟩ := hrel
   cases gk with
   | zero => exact absurd H0.out (by simp [laws_markIntSS.l0])
   | succ gk =>
   have H := H0.out
   simp only [laws_markIntSS.l0] at H
   clear H0
   by_cases c1 : x5 < (l0.length : Int)
   rotate_left
   ·rw [if_neg (by rw [HX.out]; exact c1)] at H
    obtain ⟨rfl, rfl⟩ : x1 = r1 ∧ x0 = r2 := by simpa using H
    have d0 : decide (x5 < (l0.length : Int)) = false := decide_eq_false c1
    clear c1 H
    go_wp2
    go_ret
    exact ⟨rfl, HS.out, HB.1, HK.1⟩
   rw [if_pos (by rw [HX.out]; exact c1)] at H
   by_cases c2 : 0 ≤ x5
   rotate_left
   ·rw [if_neg c2] at H; exact absurd H (by simp)
   rw [if_pos c2] at H
   obtain ⟨⟨b1, b2⟩, hm, H⟩ := Option.bind_eq_some_iff.1 H
   dsimp only at H
   have HM := zM hm
   have HH := zM H
   have d0 : decide (x5 < (l0.length : Int)) = true := decide_eq_true c1
   have p1 : (0 ≤ x5) = True := eq_true c2
   have p2 : (x5 < (l0.length : Int)) = True := eq_true c1
   obtain ⟨oki, c, hcl, hMM, hcc, hfr, hoki, hHH⟩ := Kd.S_elem HS.out [] x5 c2 c1
   obtain ⟨v0, hce, hR0⟩ := hMM
   have hx0 : wr.cell? ⟨g, x5.toNat, none⟩ = some v0 := by have := hcc 0 v0 (by rw [hce]; rfl); rw [Nat.add_zero, show ((Kd.slice 3 (Kd.int .i64))).sz = 1 from rfl, Nat.mul_one] at this; exact this
   have HR0 := zM hR0
   have HHH := zM hHH
   have HOK := zM hoki
   have HCE := zM hce
   have hgne : ¬ oki g := fun h => (hoki g h).2 rfl
   have HGN := zM hgne
   have HIN := zM c2
   have HIL := zM c1
   clear hR0 hHH hoki hce hgne hcl hcc hfr c1 c2 hm H
   go_wp2_with (first | (go_at_call 28; (refine (laws_markIntS.calls gk oki v0 (x0.getD (x5 : Int).toNat []) x1 b1 b2 w0 _ HB.1 HR0.1 HM.out).mono ?_); rintro e w8 ⟨rfl, hr8, hb8, hk8⟩; have HR8 := zM hr8; have HB8 := zM hb8; have HK8 := zM hk8; clear hr8 hb8 hk8 hx0))
   go_roundg gk
   case rel => exact ⟨x0.set (x5 : Int).toNat b2, b1, wrap64 (x5 + 1), rfl, rfl, ⟨HH.out⟩, ⟨by rw [List.length_set]; exact HX.out⟩, ⟨Kd.H_back (Kd.H_kept HHH.out HK8.1 (fun k _ hn hs => hn hs)) (x' := b2) ⟨v0, HCE.out, Kd.R_mono (Kd.R_tight rfl HR8.1) (fun k hk => HR0.1.1 k hk.symm)⟩ (fun _ hk => hk)⟩, ⟨HB8.1⟩, ⟨HK.1.then_ HK8.1 (fun k hk => .inl (HOK.out k hk).1)⟩⟩
   all_goals omega

/-! ### laws_heldIntS: function 36 -/
def laws_heldIntS.l0 : Nat → List Int → Int → Int → Option (Int)
 | 0, _, _, _ => none
 | k + 1, x0, x1, x5 => if x5 < (x0.length : Int) then (if 0 ≤ x5 then (if (rd x0 x5) = x1 then (laws_heldIntS.l0 k x0 (wrap64 (x1 + 1)) (wrap64 (x5 + 1))) else (some (-1))) else (none)) else (some x1)
def laws_heldIntS.f (k : Nat) (l0 : List Int) (a1 : Int) : Option (Int) := laws_heldIntS.l0 k l0 a1 0
theorem laws_heldIntS.mono_l : ∀ k, (∀ y0 y1 y2, LeO (laws_heldIntS.l0 k y0 y1 y2) (laws_heldIntS.l0 (k + 1) y0 y1 y2))
 | 0 => fun _ _ _ r h => by simp [laws_heldIntS.l0] at h
 | k + 1 => by
  have ih0 := laws_heldIntS.mono_l k
  ·intros
   unfold laws_heldIntS.l0
   exact zL
theorem laws_heldIntS.mono : ∀ a0 a1 k, LeO (laws_heldIntS.f k a0 a1) (laws_heldIntS.f (k + 1) a0 a1) := by
 intro a0 a1 k
 have ih0 := laws_heldIntS.mono_l k
 unfold laws_heldIntS.f
 exact zL
theorem laws_heldIntS.calls (k : Nat) (A0 : Option Addr) (c0 : Nat) (l0 : List Int) (a1 : Int) (r : Int) (w : World) (hr0 : Kd.C (Kd.int .i64) w A0 l0.length l0) (hc0 : l0.length ≤ c0) (h : laws_heldIntS.f k l0 a1 = some r) :
  Calls Try.prog 36 #[.slice A0 l0.length c0, .int .i64 a1] w fun e w' => e = .returned (.int .i64 r) ∧ Drawn0 w w' := by
 have HR0 := zM hr0
 have HC0 := zM hc0
 clear hr0 hc0
 unfold laws_heldIntS.f at h
 have H := h
 clear h
 have H' := zM H
 clear H
 go_enter Try.func36, Try.ntmps36
 go_wp2
 go_loopg [1, 5] k (fun kq v1 v5 w' => ∃ (x1_1 : Int) (x5_1 : Int), v1 = .int .i64 x1_1 ∧ v5 = .int .i64 x5_1 ∧ Aside0 (laws_heldIntS.l0 kq l0 x1_1 x5_1 = some r) ∧ Aside0 (kq ≤ k) ∧ Drawn0 w w')
 case atStart => exact ⟨(a1), (0), zJJ, zJJ, H', ⟨Nat.le_refl _⟩, zDD⟩
 case round =>
  clear H'
  try clear p2
  obtain ⟨x1_1, x5_1, rfl, rfl, HA, HK1, ⟨m1, rfl⟩⟩ := hrel
  cases gk with
  | zero => exact absurd HA.1 (by simp [laws_heldIntS.l0])
  | succ k1 =>
   have H := HA.1
   clear HA
   simp only [laws_heldIntS.l0] at H
   by_cases c3 : x5_1 < (l0.length : Int)
   rotate_left
   ·rw [if_neg c3] at H
    have c3b0 := decide_eq_false c3
    clear c3
    obtain rfl := Option.some.inj H
    go_wp2
    go_ret
    exact ⟨zJJ, zDD⟩
   rw [if_pos c3] at H
   have c3b0 := decide_eq_true c3
   clear c3
   by_cases c4 : 0 ≤ x5_1
   rotate_left
   ·rw [if_neg c4] at H
    exact absurd H (by simp)
   rw [if_pos c4] at H
   have c4b0 := decide_eq_true c4
   clear c4
   by_cases c5 : (rd l0 x5_1) = x1_1
   rotate_left
   ·rw [if_neg c5] at H
    have c5b0 : ((rd l0 x5_1) == x1_1) = false := beq_eq_false_iff_ne.mpr c5
    have c5b1 : ((rd l0 x5_1) != x1_1) = true := bne_iff_ne.mpr c5
    obtain rfl := Option.some.inj H
    have p406 : 0 ≤ (x5_1 : Int) := zA
    have q406 : x5_1 < (l0.length : Int) := zA
    obtain ⟨ad406, e406, hx406_0⟩ := Kd.at_int HR0.1 x5_1 p406 q406
    cases e406
    replace p406 := eq_true p406
    replace q406 := eq_true q406
    go_wp2
    go_ret
    exact ⟨zJJ, zDD⟩
   rw [if_pos c5] at H
   have c5b0 : ((rd l0 x5_1) == x1_1) = true := beq_iff_eq.mpr c5
   have c5b1 : ((rd l0 x5_1) != x1_1) = false := bne_eq_false_iff_eq.mpr c5
   clear c5
   have H' := zM H
   clear H
   have p406 : 0 ≤ (x5_1 : Int) := zA
   have q406 : x5_1 < (l0.length : Int) := zA
   obtain ⟨ad406, e406, hx406_0⟩ := Kd.at_int HR0.1 x5_1 p406 q406
   cases e406
   replace p406 := eq_true p406
   replace q406 := eq_true q406
   go_wp2
   go_roundg k1
   case measure => have := HK1.1; omega
   case rel => exact ⟨(wrap64 (x1_1 + 1)), (wrap64 (x5_1 + 1)), zJJ, zJJ, H', ⟨by have := HK1.1; omega⟩, zDD⟩

/-! ### laws_heldIntSS: function 31 -/
def laws_heldIntSS.l0 : Nat → List (List Int) → Int → Int → Option (Int)
 | 0, _, _, _ => none
 | k + 1, x0, x1, x5 => if x5 < (x0.length : Int) then (if 0 ≤ x5 then ((laws_heldIntS.f k (rd_L1 x0 x5) x1).bind fun t408 => (if t408 < 0 then (some (-1)) else (laws_heldIntSS.l0 k x0 t408 (wrap64 (x5 + 1))))) else (none)) else (some x1)
def laws_heldIntSS.f (k : Nat) (l0 : List (List Int)) (a1 : Int) : Option (Int) := laws_heldIntSS.l0 k l0 a1 0
theorem laws_heldIntSS.mono_l : ∀ k, (∀ y0 y1 y2, LeO (laws_heldIntSS.l0 k y0 y1 y2) (laws_heldIntSS.l0 (k + 1) y0 y1 y2))
 | 0 => fun _ _ _ r h => by simp [laws_heldIntSS.l0] at h
 | k + 1 => by
  have ih0 := laws_heldIntSS.mono_l k
  ·intros
   unfold laws_heldIntSS.l0
   have mo0 := @laws_heldIntS.mono
   exact zL
theorem laws_heldIntSS.mono : ∀ a0 a1 k, LeO (laws_heldIntSS.f k a0 a1) (laws_heldIntSS.f (k + 1) a0 a1) := by
 intro a0 a1 k
 have ih0 := laws_heldIntSS.mono_l k
 unfold laws_heldIntSS.f
 have mo0 := @laws_heldIntS.mono
 exact zL
theorem laws_heldIntSS.calls (k : Nat) (A0 : Option Addr) (c0 : Nat) (l0 : List (List Int)) (a1 : Int) (r : Int) (w : World) (hr0 : Kd.C (Kd.slice 3 (Kd.int .i64)) w A0 l0.length l0) (hc0 : l0.length ≤ c0) (h : laws_heldIntSS.f k l0 a1 = some r) :
  Calls Try.prog 31 #[.slice A0 l0.length c0, .int .i64 a1] w fun e w' => e = .returned (.int .i64 r) ∧ Drawn0 w w' := by
 have HR0 := zM hr0
 have HC0 := zM hc0
 clear hr0 hc0
 unfold laws_heldIntSS.f at h
 have H := h
 clear h
 have H' := zM H
 clear H
 go_enter Try.func31, Try.ntmps31
 go_wp2
 go_loopg [1, 5] k (fun kq v1 v5 w' => ∃ (x1_1 : Int) (x5_1 : Int), v1 = .int .i64 x1_1 ∧ v5 = .int .i64 x5_1 ∧ Aside0 (laws_heldIntSS.l0 kq l0 x1_1 x5_1 = some r) ∧ Aside0 (kq ≤ k) ∧ Drawn0 w w')
 case atStart => exact ⟨(a1), (0), zJJ, zJJ, H', ⟨Nat.le_refl _⟩, zDD⟩
 case round =>
  clear H'
  try clear p2
  obtain ⟨x1_1, x5_1, rfl, rfl, HA, HK1, ⟨m1, rfl⟩⟩ := hrel
  cases gk with
  | zero => exact absurd HA.1 (by simp [laws_heldIntSS.l0])
  | succ k1 =>
   have H := HA.1
   clear HA
   simp only [laws_heldIntSS.l0] at H
   by_cases c3 : x5_1 < (l0.length : Int)
   rotate_left
   ·rw [if_neg c3] at H
    have c3b0 := decide_eq_false c3
    clear c3
    obtain rfl := Option.some.inj H
    go_wp2
    go_ret
    exact ⟨zJJ, zDD⟩
   rw [if_pos c3] at H
   have c3b0 := decide_eq_true c3
   clear c3
   by_cases c4 : 0 ≤ x5_1
   rotate_left
   ·rw [if_neg c4] at H
    exact absurd H (by simp)
   rw [if_pos c4] at H
   have c4b0 := decide_eq_true c4
   clear c4
   replace H := zO H
   obtain ⟨t408, A5, H⟩ := H
   by_cases c6 : t408 < 0
   ·rw [if_pos c6] at H
    have c6b0 := decide_eq_true c6
    clear c6
    obtain rfl := Option.some.inj H
    have p407 : 0 ≤ (x5_1 : Int) := zA
    have q407 : x5_1 < (l0.length : Int) := zA
    obtain ⟨ad407, A407_0, c407_0, e407, hx407_0, hl407_0, hi407_0⟩ := at_L1 HR0.1 x5_1 p407 q407
    cases e407
    have HR407_0 := zM hi407_0
    have HC407_0 := zM hl407_0
    clear hi407_0 hl407_0
    replace p407 := eq_true p407
    replace q407 := eq_true q407
    go_wp2_with (first | ((with_reducible refine gate_callee (f := 36) rfl ?_); refine goesL_ (some 17) rfl rfl Try.func36 (by kernel_rfl) rfl #[.slice A407_0 (rd_L1 l0 x5_1).length c407_0, .int .i64 x1_1] rfl zT ?_; (with_reducible refine (laws_heldIntS.calls k1 _ _ (rd_L1 l0 x5_1) x1_1 t408 _ ?side1 ?side2 A5.1).mono ?_); (case side1 => exact zC HR407_0.1); (case side2 => exact HC407_0.1); rintro e w' ⟨rfl, ⟨nd, rfl⟩⟩; refine ⟨_, rfl, ?_⟩))
    go_ret
    exact ⟨zJJ, zDD⟩
   rw [if_neg c6] at H
   have c6b0 := decide_eq_false c6
   clear c6
   have H' := zM H
   clear H
   have p407 : 0 ≤ (x5_1 : Int) := zA
   have q407 : x5_1 < (l0.length : Int) := zA
   obtain ⟨ad407, A407_0, c407_0, e407, hx407_0, hl407_0, hi407_0⟩ := at_L1 HR0.1 x5_1 p407 q407
   cases e407
   have HR407_0 := zM hi407_0
   have HC407_0 := zM hl407_0
   clear hi407_0 hl407_0
   replace p407 := eq_true p407
   replace q407 := eq_true q407
   go_wp2_with (first | ((with_reducible refine gate_callee (f := 36) rfl ?_); refine goesL_ (some 17) rfl rfl Try.func36 (by kernel_rfl) rfl #[.slice A407_0 (rd_L1 l0 x5_1).length c407_0, .int .i64 x1_1] rfl zT ?_; (with_reducible refine (laws_heldIntS.calls k1 _ _ (rd_L1 l0 x5_1) x1_1 t408 _ ?side1 ?side2 A5.1).mono ?_); (case side1 => exact zC HR407_0.1); (case side2 => exact HC407_0.1); rintro e w' ⟨rfl, ⟨nd, rfl⟩⟩; refine ⟨_, rfl, ?_⟩))
   go_roundg k1
   case measure => have := HK1.1; omega
   case rel => exact ⟨(t408), (wrap64 (x5_1 + 1)), zJJ, zJJ, H', ⟨by have := HK1.1; omega⟩, zDD⟩

/-! ### laws_FnExactEnds2: function 4 -/
def KT (w : World) (L : List Nat) (k : Nat) : Prop := ∃ q, q ∈ L ∧ ∃ cells, w.heap[k]? = some (.cells cells q (0, 0))
theorem KT_ne {w : World} {L1 L2 : List Nat} {k : Nat} (hd : ∀ q, q ∈ L1 → ¬ q ∈ L2) (h1 : KT w L1 k) (h2 : KT w L2 k) : False := by
 obtain ⟨q1, m1, c1, e1⟩ := h1; obtain ⟨q2, m2, c2, e2⟩ := h2
 rw [e1] at e2; simp at e2; obtain ⟨_, rfl⟩ := e2; exact hd _ m1 m2
theorem own_any {A : Option Addr} {n n' c c' : Nat} : (Value.slice A n c).ownBlock = (Value.slice A n' c').ownBlock := by cases A <;> rfl
theorem iv_R {α : Type} {d : Kd α} {e b : Nat} {ok : Nat → Prop} {W w' : World} {v : Value} {xs : List α} (h : d.R e w' W.heap.size ok v xs) (hb : b ≤ W.heap.size) : d.R e w' b (fun k => W.heap.size ≤ k ∧ k < w'.heap.size ∧ KT w' (e :: d.E) k ∧ ok k) v xs := Kd.R_lower (Kd.R_mono (Kd.R_bound h) (fun _ hk => ⟨hk.2.1, hk.2.2.1, hk.2.2.2, hk.1⟩)) hb
theorem iv_O {α : Type} {d : Kd α} {e b : Nat} {ok : Nat → Prop} {W w' : World} {v : Value} {xs : List α} (hE : d.E = []) (h : d.R e w' W.heap.size ok v xs) (hb : b ≤ W.heap.size) : d.R e w' b (fun k => W.heap.size ≤ k ∧ k < w'.heap.size ∧ KT w' (e :: d.E) k ∧ some k = v.ownBlock) v xs := Kd.R_lower (Kd.R_mono (Kd.R_bound (Kd.R_tight2 hE h)) (fun _ hk => ⟨hk.2.1, hk.2.2.1, hk.2.2.2, hk.1.1⟩)) hb
theorem iv_P {α : Type} {d : Kd α} {e b : Nat} {ok : Nat → Prop} {W w' : World} {v : Value} {xs : List α} (hE : d.E = []) (h : d.R e w' W.heap.size ok v xs) (hb : b ≤ W.heap.size) : d.R e w' b (fun k => W.heap.size ≤ k ∧ k < w'.heap.size ∧ KT w' (e :: d.E) k ∧ some k = v.ownBlock ∧ ok k) v xs := Kd.R_lower (Kd.R_mono (Kd.R_bound (Kd.R_tight2 hE h)) (fun _ hk => ⟨hk.2.1, hk.2.2.1, hk.2.2.2, hk.1⟩)) hb
theorem iv_S {α : Type} {d : Kd α} {e b : Nat} {ok : Nat → Prop} {W w' : World} {v : Value} {xs : List α} (h : Kd.S d e w' W.heap.size ok v xs) (hb : b ≤ W.heap.size) : Kd.S d e w' b (fun k => W.heap.size ≤ k ∧ k < w'.heap.size ∧ KT w' (e :: d.E) k ∧ ok k) v xs := Kd.S_lower (Kd.S_mono (Kd.S_bound h) (fun _ hk => ⟨hk.2.1, hk.2.2.1, hk.2.2.2, hk.1⟩)) hb
theorem iv_Q {α : Type} {d : Kd α} {e b : Nat} {ok : Nat → Prop} {W w' : World} {v : Value} {xs : List α} (h : d.Q e w' W.heap.size ok v xs) (hb : b ≤ W.heap.size) : d.Q e w' b (fun k => W.heap.size ≤ k ∧ k < w'.heap.size ∧ KT w' (e :: d.E) k ∧ ok k) v xs := Kd.Q_lower (Kd.Q_mono (Kd.Q_bound h) (fun _ hk => ⟨hk.2.1, hk.2.2.1, hk.2.2.2, hk.1⟩)) hb
def laws_FnExactEnds2.f (k : Nat) (l0 : List Int) (l1 : List (S68)) (a2 : Int) : Option (Bool) := if (l0.length : Int) > 1048576 then (some true) else ((laws_szHartS.f k l1 1048576).bind fun t456 => (if t456 < 0 then (some true) else ((laws_toIntS.f k l0).bind fun t457 => ((laws_toHartS.f k l1).bind fun t460 => ((spec_Ends2.f k t457 t460 a2).bind fun t463 => ((laws_toIntS.f k l0).bind fun t466 => ((laws_toHartS.f k l1).bind fun t469 => ((impl_Ends2.f k t466 t469 a2).bind fun t472 => ((laws_eqIntSS.f k t472 t463).bind fun t475 => (if t475 = true then ((laws_toIntS.f k l0).bind fun t476 => ((laws_eqIntS.f k t466 t476).bind fun t479 => (if t479 = true then ((laws_toHartS.f k l1).bind fun t480 => ((laws_eqHartS.f k t469 t480).bind fun t483 => (if t483 = true then ((laws_markIntS.f k t466 1).bind fun bt484 => ((laws_markHartS.f k t469 bt484.1).bind fun bt486 => (if bt486.1 < 0 then (some false) else ((laws_eqIntSS.f k t472 t463).bind fun t488 => (if t488 = true then ((laws_markIntSS.f k t472 1).bind fun bt489 => ((laws_heldIntSS.f k bt489.2 1).bind fun t491 => (if t491 < 0 then (some false) else (if t491 = bt489.1 then ((laws_toIntS.f k l0).bind fun t492 => ((laws_toHartS.f k l1).bind fun t495 => ((impl_Ends2.f k t492 t495 a2).bind fun t498 => ((laws_eqIntSS.f k t498 t463).bind fun t501 => (if t501 = true then ((laws_heldIntSS.f k bt489.2 1).bind fun t502 => (if t502 < 0 then (some false) else (if t502 = bt489.1 then (some true) else (some false)))) else (some false)))))) else (some false))))) else (some false)))))) else (some false)))) else (some false)))) else (some false)))))))))))
theorem laws_FnExactEnds2.mono : ∀ a0 a1 a2 k, LeO (laws_FnExactEnds2.f k a0 a1 a2) (laws_FnExactEnds2.f (k + 1) a0 a1 a2) := by
 intro a0 a1 a2 k
 unfold laws_FnExactEnds2.f
 have mo0 := @impl_Ends2.mono
 have mo1 := @laws_eqHartS.mono
 have mo2 := @laws_eqIntS.mono
 have mo3 := @laws_eqIntSS.mono
 have mo4 := @laws_heldIntSS.mono
 have mo5 := @laws_markHartS.mono
 have mo6 := @laws_markIntS.mono
 have mo7 := @laws_markIntSS.mono
 have mo8 := @laws_szHartS.mono
 have mo9 := @laws_toHartS.mono
 have mo10 := @laws_toIntS.mono
 have mo11 := @spec_Ends2.mono
 exact zL
theorem laws_FnExactEnds2.calls (k : Nat) (A0 : Option Addr) (c0 : Nat) (l0 : List Int) (A1 : Option Addr) (c1 : Nat) (l1 : List (S68)) (a2 : Int) (r : Bool) (w : World) (hr0 : Kd.C (Kd.int .i64) w A0 l0.length l0) (hc0 : l0.length ≤ c0) (hr1 : Kd.C k68 w A1 l1.length l1) (hc1 : l1.length ≤ c1) (hr_ : r = true) (h : laws_FnExactEnds2.f k l0 l1 a2 = some r) :
  Calls Try.prog 4 #[.slice A0 l0.length c0, .slice A1 l1.length c1, .int .i64 a2] w fun e w' => e = .returned (.bool r) ∧ Below w.heap.size w w' := by
 subst hr_
 have HR0 := zM hr0
 have HC0 := zM hc0
 clear hr0 hc0
 have HR1 := zM hr1
 have HC1 := zM hc1
 clear hr1 hc1
 unfold laws_FnExactEnds2.f at h
 have H := h
 clear h
 by_cases ci1 : (l0.length : Int) > 1048576
 ·rw [if_pos ci1] at H
  have ci1b0 : decide (1048576 < (l0.length : Int)) = true := decide_eq_true ci1
  have ci1b1 : decide (1048576 < l0.length) = true := decide_eq_true (by omega)
  clear ci1
  have HB := zM (Below.refl w.heap.size w)
  have HZ := zM (Nat.le_refl w.heap.size)
  clear H
  go_enter Try.func4, Try.ntmps4
  go_wp2
  go_ret
  exact ⟨rfl, HB.1⟩
 rw [if_neg ci1] at H
 have ci1b0 : decide (1048576 < (l0.length : Int)) = false := decide_eq_false ci1
 have ci1b1 : decide (1048576 < l0.length) = false := decide_eq_false (by omega)
 clear ci1
 obtain ⟨t456, hA_, H⟩ := Option.bind_eq_some_iff.mp H
 try dsimp only at H
 have AE1 := zM hA_
 clear hA_
 by_cases ci2 : t456 < 0
 ·rw [if_pos ci2] at H
  have ci2b0 : decide (t456 < 0) = true := decide_eq_true ci2
  clear ci2
  have HB := zM (Below.refl w.heap.size w)
  have HZ := zM (Nat.le_refl w.heap.size)
  clear H
  go_enter Try.func4, Try.ntmps4
  go_wp2_with (first | (go_at_call 20; (refine (laws_szHartS.calls k _ _ l1 1048576 t456 _ ((Kd.C_below HR1.1 HB.1)) (HC1.1) AE1.out).mono ?_); rintro e wx1 ⟨rfl, hb⟩; have n_ := zM (show _ ∧ w.heap.size ≤ wx1.heap.size from ⟨HZ.out, hb.size⟩); clear HZ; have HZ := n_; clear n_; have n_ := zM (below_step HB.1 hb); clear HB; have HB := n_; clear n_ hb))
  go_ret
  exact ⟨rfl, HB.1⟩
 rw [if_neg ci2] at H
 have ci2b0 : decide (t456 < 0) = false := decide_eq_false ci2
 clear ci2
 obtain ⟨t457, hA_, H⟩ := Option.bind_eq_some_iff.mp H
 try dsimp only at H
 have AE2 := zM hA_
 clear hA_
 obtain ⟨t460, hA_, H⟩ := Option.bind_eq_some_iff.mp H
 try dsimp only at H
 have AE3 := zM hA_
 clear hA_
 obtain ⟨t463, hA_, H⟩ := Option.bind_eq_some_iff.mp H
 try dsimp only at H
 have AE4 := zM hA_
 clear hA_
 obtain ⟨t466, hA_, H⟩ := Option.bind_eq_some_iff.mp H
 try dsimp only at H
 have AE5 := zM hA_
 clear hA_
 obtain ⟨t469, hA_, H⟩ := Option.bind_eq_some_iff.mp H
 try dsimp only at H
 have AE6 := zM hA_
 clear hA_
 obtain ⟨t472, hA_, H⟩ := Option.bind_eq_some_iff.mp H
 try dsimp only at H
 have AE7 := zM hA_
 clear hA_
 obtain ⟨t475, hA_, H⟩ := Option.bind_eq_some_iff.mp H
 try dsimp only at H
 have AE8 := zM hA_
 clear hA_
 by_cases ci3 : t475 = true
 rotate_left
 ·rw [if_neg ci3] at H
  exact absurd H (by simp)
 rw [if_pos ci3] at H
 subst ci3
 obtain ⟨t476, hA_, H⟩ := Option.bind_eq_some_iff.mp H
 try dsimp only at H
 have AE9 := zM hA_
 clear hA_
 obtain ⟨t479, hA_, H⟩ := Option.bind_eq_some_iff.mp H
 try dsimp only at H
 have AE10 := zM hA_
 clear hA_
 by_cases ci4 : t479 = true
 rotate_left
 ·rw [if_neg ci4] at H
  exact absurd H (by simp)
 rw [if_pos ci4] at H
 subst ci4
 obtain ⟨t480, hA_, H⟩ := Option.bind_eq_some_iff.mp H
 try dsimp only at H
 have AE11 := zM hA_
 clear hA_
 obtain ⟨t483, hA_, H⟩ := Option.bind_eq_some_iff.mp H
 try dsimp only at H
 have AE12 := zM hA_
 clear hA_
 by_cases ci5 : t483 = true
 rotate_left
 ·rw [if_neg ci5] at H
  exact absurd H (by simp)
 rw [if_pos ci5] at H
 subst ci5
 obtain ⟨⟨t484, t485⟩, hA_, H⟩ := Option.bind_eq_some_iff.mp H
 try dsimp only at H
 have AE13 := zM hA_
 clear hA_
 obtain ⟨⟨t486, t487⟩, hA_, H⟩ := Option.bind_eq_some_iff.mp H
 try dsimp only at H
 have AE14 := zM hA_
 clear hA_
 by_cases ci6 : t486 < 0
 ·rw [if_pos ci6] at H
  exact absurd H (by simp)
 rw [if_neg ci6] at H
 have ci6b0 : decide (t486 < 0) = false := decide_eq_false ci6
 clear ci6
 obtain ⟨t488, hA_, H⟩ := Option.bind_eq_some_iff.mp H
 try dsimp only at H
 have AE15 := zM hA_
 clear hA_
 by_cases ci7 : t488 = true
 rotate_left
 ·rw [if_neg ci7] at H
  exact absurd H (by simp)
 rw [if_pos ci7] at H
 subst ci7
 obtain ⟨⟨t489, t490⟩, hA_, H⟩ := Option.bind_eq_some_iff.mp H
 try dsimp only at H
 have AE16 := zM hA_
 clear hA_
 obtain ⟨t491, hA_, H⟩ := Option.bind_eq_some_iff.mp H
 try dsimp only at H
 have AE17 := zM hA_
 clear hA_
 by_cases ci8 : t491 < 0
 ·rw [if_pos ci8] at H
  exact absurd H (by simp)
 rw [if_neg ci8] at H
 have ci8b0 : decide (t491 < 0) = false := decide_eq_false ci8
 clear ci8
 by_cases ci9 : t491 = t489
 rotate_left
 ·rw [if_neg ci9] at H
  exact absurd H (by simp)
 rw [if_pos ci9] at H
 have ci9b0 : (t491 == t489) = true := beq_iff_eq.mpr ci9
 have ci9b1 : (t491 != t489) = false := bne_eq_false_iff_eq.mpr ci9
 clear ci9
 obtain ⟨t492, hA_, H⟩ := Option.bind_eq_some_iff.mp H
 try dsimp only at H
 have AE18 := zM hA_
 clear hA_
 obtain ⟨t495, hA_, H⟩ := Option.bind_eq_some_iff.mp H
 try dsimp only at H
 have AE19 := zM hA_
 clear hA_
 obtain ⟨t498, hA_, H⟩ := Option.bind_eq_some_iff.mp H
 try dsimp only at H
 have AE20 := zM hA_
 clear hA_
 obtain ⟨t501, hA_, H⟩ := Option.bind_eq_some_iff.mp H
 try dsimp only at H
 have AE21 := zM hA_
 clear hA_
 by_cases ci10 : t501 = true
 rotate_left
 ·rw [if_neg ci10] at H
  exact absurd H (by simp)
 rw [if_pos ci10] at H
 subst ci10
 obtain ⟨t502, hA_, H⟩ := Option.bind_eq_some_iff.mp H
 try dsimp only at H
 have AE22 := zM hA_
 clear hA_
 by_cases ci11 : t502 < 0
 ·rw [if_pos ci11] at H
  exact absurd H (by simp)
 rw [if_neg ci11] at H
 have ci11b0 : decide (t502 < 0) = false := decide_eq_false ci11
 clear ci11
 by_cases ci12 : t502 = t489
 rotate_left
 ·rw [if_neg ci12] at H
  exact absurd H (by simp)
 rw [if_pos ci12] at H
 have ci12b0 : (t502 == t489) = true := beq_iff_eq.mpr ci12
 have ci12b1 : (t502 != t489) = false := bne_eq_false_iff_eq.mpr ci12
 clear ci12
 have HB := zM (Below.refl w.heap.size w)
 have HZ := zM (Nat.le_refl w.heap.size)
 clear H
 go_enter Try.func4, Try.ntmps4
 go_wp2_with (first | (go_at_call 20; (refine (laws_szHartS.calls k _ _ l1 1048576 t456 _ ((Kd.C_below HR1.1 HB.1)) (HC1.1) AE1.out).mono ?_); rintro e wx1 ⟨rfl, hb⟩; have n_ := zM (show _ ∧ w.heap.size ≤ wx1.heap.size from ⟨HZ.out, hb.size⟩); clear HZ; have HZ := n_; clear n_; have n_ := zM (below_step HB.1 hb); clear HB; have HB := n_; clear n_ hb))
 go_wp2_with (first | (go_at_call 22; (refine (laws_toIntS.calls k _ _ l0 t457 _ ((Kd.C_below HR0.1 HB.1)) (HC0.1) AE2.out).mono ?_); rintro e wx2 ⟨v458, rfl, ho0, hb⟩; obtain ⟨AHO459, cHO459, e_⟩ := Kd.R_slice ho0; subst e_; have HO459 := zM (iv_O rfl ho0 HB.1.size); clear ho0; have n_ := zM (show _ ∧ wx1.heap.size ≤ wx2.heap.size from ⟨HZ.out, hb.size⟩); clear HZ; have HZ := n_; clear n_; have n_ := zM (below_step HB.1 hb); clear HB; have HB := n_; clear n_ hb))
 go_wp2_with (first | (go_at_call 23; (refine (laws_toHartS.calls k _ _ l1 t460 _ ((Kd.C_below HR1.1 HB.1)) (HC1.1) AE3.out).mono ?_); rintro e wx3 ⟨v461, rfl, ho0, hb⟩; obtain ⟨AHO462, cHO462, e_⟩ := Kd.S_slice ho0; subst e_; have n0_ := zM (Kd.R_below HO459.1 hb); clear HO459; have HO459 := n0_; clear n0_; have HO462 := zM (iv_S ho0 HB.1.size); clear ho0; have n_ := zM (show _ ∧ wx2.heap.size ≤ wx3.heap.size from ⟨HZ.out, hb.size⟩); clear HZ; have HZ := n_; clear n_; have n_ := zM (below_step HB.1 hb); clear HB; have HB := n_; clear n_ hb))
 go_wp2_with (first | (go_at_call 21; (refine (spec_Ends2.calls k _ _ t457 _ _ t460 a2 t463 _ ((Kd.R_reads' HO459.1).2.2) ((Kd.R_reads' HO459.1).2.1) ((Kd.S_reads' HO462.1).2.2) ((Kd.S_reads' HO462.1).2.1) AE4.out).mono ?_); rintro e wx4 ⟨v464, rfl, ho0, hb⟩; obtain ⟨AHO465, cHO465, e_⟩ := Kd.S_slice ho0; subst e_; have n0_ := zM (Kd.R_below HO459.1 hb); have n1_ := zM (Kd.S_below HO462.1 hb); clear HO459; clear HO462; have HO459 := n0_; have HO462 := n1_; clear n0_; clear n1_; have HO465 := zM (iv_S ho0 HB.1.size); clear ho0; have n_ := zM (show _ ∧ wx3.heap.size ≤ wx4.heap.size from ⟨HZ.out, hb.size⟩); clear HZ; have HZ := n_; clear n_; have n_ := zM (below_step HB.1 hb); clear HB; have HB := n_; clear n_ hb))
 go_wp2_with (first | (go_at_call 22; (refine (laws_toIntS.calls k _ _ l0 t466 _ ((Kd.C_below HR0.1 HB.1)) (HC0.1) AE5.out).mono ?_); rintro e wx5 ⟨v467, rfl, ho0, hb⟩; obtain ⟨AHO468, cHO468, e_⟩ := Kd.R_slice ho0; subst e_; have n0_ := zM (Kd.R_below HO459.1 hb); have n1_ := zM (Kd.S_below HO462.1 hb); have n2_ := zM (Kd.S_below HO465.1 hb); clear HO459; clear HO462; clear HO465; have HO459 := n0_; have HO462 := n1_; have HO465 := n2_; clear n0_; clear n1_; clear n2_; have HO468 := zM (iv_O rfl ho0 HB.1.size); clear ho0; have n_ := zM (show _ ∧ wx4.heap.size ≤ wx5.heap.size from ⟨HZ.out, hb.size⟩); clear HZ; have HZ := n_; clear n_; have n_ := zM (below_step HB.1 hb); clear HB; have HB := n_; clear n_ hb))
 go_wp2_with (first | (go_at_call 23; (refine (laws_toHartS.calls k _ _ l1 t469 _ ((Kd.C_below HR1.1 HB.1)) (HC1.1) AE6.out).mono ?_); rintro e wx6 ⟨v470, rfl, ho0, hb⟩; obtain ⟨AHO471, cHO471, e_⟩ := Kd.S_slice ho0; subst e_; have n0_ := zM (Kd.R_below HO459.1 hb); have n1_ := zM (Kd.S_below HO462.1 hb); have n2_ := zM (Kd.S_below HO465.1 hb); have n3_ := zM (Kd.R_below HO468.1 hb); clear HO459; clear HO462; clear HO465; clear HO468; have HO459 := n0_; have HO462 := n1_; have HO465 := n2_; have HO468 := n3_; clear n0_; clear n1_; clear n2_; clear n3_; have HO471 := zM (iv_S ho0 HB.1.size); clear ho0; have n_ := zM (show _ ∧ wx5.heap.size ≤ wx6.heap.size from ⟨HZ.out, hb.size⟩); clear HZ; have HZ := n_; clear n_; have n_ := zM (below_step HB.1 hb); clear HB; have HB := n_; clear n_ hb))
 go_wp2_with (first | (go_at_call 24; (refine (impl_Ends2.calls k _ _ t466 _ _ t469 a2 t472 _ ((Kd.R_reads' HO468.1).2.2) ((Kd.R_reads' HO468.1).2.1) ((Kd.S_reads' HO471.1).2.2) ((Kd.S_reads' HO471.1).2.1) AE7.out).mono ?_); rintro e wx7 ⟨v473, rfl, ho0, hb⟩; obtain ⟨AHO474, cHO474, e_⟩ := Kd.S_slice ho0; subst e_; have n0_ := zM (Kd.R_below HO459.1 hb); have n1_ := zM (Kd.S_below HO462.1 hb); have n2_ := zM (Kd.S_below HO465.1 hb); have n3_ := zM (Kd.R_below HO468.1 hb); have n4_ := zM (Kd.S_below HO471.1 hb); clear HO459; clear HO462; clear HO465; clear HO468; clear HO471; have HO459 := n0_; have HO462 := n1_; have HO465 := n2_; have HO468 := n3_; have HO471 := n4_; clear n0_; clear n1_; clear n2_; clear n3_; clear n4_; have HO474 := zM (iv_S ho0 HB.1.size); clear ho0; have n_ := zM (show _ ∧ wx6.heap.size ≤ wx7.heap.size from ⟨HZ.out, hb.size⟩); clear HZ; have HZ := n_; clear n_; have n_ := zM (below_step HB.1 hb); clear HB; have HB := n_; clear n_ hb))
 go_wp2_with (first | (go_at_call 25; (refine (laws_eqIntSS.calls k _ _ t472 _ _ t463 _ _ ((Kd.S_reads' HO474.1).2.2) ((Kd.S_reads' HO474.1).2.1) ((Kd.S_reads' HO465.1).2.2) ((Kd.S_reads' HO465.1).2.1) AE8.out).mono ?_); rintro e wx8 ⟨rfl, hd_⟩; have hb := hd_.below; clear hd_; have n0_ := zM (Kd.R_below HO459.1 hb); have n1_ := zM (Kd.S_below HO462.1 hb); have n2_ := zM (Kd.S_below HO465.1 hb); have n3_ := zM (Kd.R_below HO468.1 hb); have n4_ := zM (Kd.S_below HO471.1 hb); have n5_ := zM (Kd.S_below HO474.1 hb); clear HO459; clear HO462; clear HO465; clear HO468; clear HO471; clear HO474; have HO459 := n0_; have HO462 := n1_; have HO465 := n2_; have HO468 := n3_; have HO471 := n4_; have HO474 := n5_; clear n0_; clear n1_; clear n2_; clear n3_; clear n4_; clear n5_; have n_ := zM (show _ ∧ wx7.heap.size ≤ wx8.heap.size from ⟨HZ.out, hb.size⟩); clear HZ; have HZ := n_; clear n_; have n_ := zM (below_step HB.1 hb); clear HB; have HB := n_; clear n_ hb))
 go_wp2_with (first | (go_at_call 22; (refine (laws_toIntS.calls k _ _ l0 t476 _ ((Kd.C_below HR0.1 HB.1)) (HC0.1) AE9.out).mono ?_); rintro e wx9 ⟨v477, rfl, ho0, hb⟩; obtain ⟨AHO478, cHO478, e_⟩ := Kd.R_slice ho0; subst e_; have n0_ := zM (Kd.R_below HO459.1 hb); have n1_ := zM (Kd.S_below HO462.1 hb); have n2_ := zM (Kd.S_below HO465.1 hb); have n3_ := zM (Kd.R_below HO468.1 hb); have n4_ := zM (Kd.S_below HO471.1 hb); have n5_ := zM (Kd.S_below HO474.1 hb); clear HO459; clear HO462; clear HO465; clear HO468; clear HO471; clear HO474; have HO459 := n0_; have HO462 := n1_; have HO465 := n2_; have HO468 := n3_; have HO471 := n4_; have HO474 := n5_; clear n0_; clear n1_; clear n2_; clear n3_; clear n4_; clear n5_; have HO478 := zM (iv_O rfl ho0 HB.1.size); clear ho0; have n_ := zM (show _ ∧ wx8.heap.size ≤ wx9.heap.size from ⟨HZ.out, hb.size⟩); clear HZ; have HZ := n_; clear n_; have n_ := zM (below_step HB.1 hb); clear HB; have HB := n_; clear n_ hb))
 go_wp2_with (first | (go_at_call 26; (refine (laws_eqIntS.calls k _ _ t466 _ _ t476 _ _ ((Kd.R_reads' HO468.1).2.2) ((Kd.R_reads' HO468.1).2.1) ((Kd.R_reads' HO478.1).2.2) ((Kd.R_reads' HO478.1).2.1) AE10.out).mono ?_); rintro e wx10 ⟨rfl, hd_⟩; have hb := hd_.below; clear hd_; have n0_ := zM (Kd.R_below HO459.1 hb); have n1_ := zM (Kd.S_below HO462.1 hb); have n2_ := zM (Kd.S_below HO465.1 hb); have n3_ := zM (Kd.R_below HO468.1 hb); have n4_ := zM (Kd.S_below HO471.1 hb); have n5_ := zM (Kd.S_below HO474.1 hb); have n6_ := zM (Kd.R_below HO478.1 hb); clear HO459; clear HO462; clear HO465; clear HO468; clear HO471; clear HO474; clear HO478; have HO459 := n0_; have HO462 := n1_; have HO465 := n2_; have HO468 := n3_; have HO471 := n4_; have HO474 := n5_; have HO478 := n6_; clear n0_; clear n1_; clear n2_; clear n3_; clear n4_; clear n5_; clear n6_; have n_ := zM (show _ ∧ wx9.heap.size ≤ wx10.heap.size from ⟨HZ.out, hb.size⟩); clear HZ; have HZ := n_; clear n_; have n_ := zM (below_step HB.1 hb); clear HB; have HB := n_; clear n_ hb))
 go_wp2_with (first | (go_at_call 23; (refine (laws_toHartS.calls k _ _ l1 t480 _ ((Kd.C_below HR1.1 HB.1)) (HC1.1) AE11.out).mono ?_); rintro e wx11 ⟨v481, rfl, ho0, hb⟩; obtain ⟨AHO482, cHO482, e_⟩ := Kd.S_slice ho0; subst e_; have n0_ := zM (Kd.R_below HO459.1 hb); have n1_ := zM (Kd.S_below HO462.1 hb); have n2_ := zM (Kd.S_below HO465.1 hb); have n3_ := zM (Kd.R_below HO468.1 hb); have n4_ := zM (Kd.S_below HO471.1 hb); have n5_ := zM (Kd.S_below HO474.1 hb); have n6_ := zM (Kd.R_below HO478.1 hb); clear HO459; clear HO462; clear HO465; clear HO468; clear HO471; clear HO474; clear HO478; have HO459 := n0_; have HO462 := n1_; have HO465 := n2_; have HO468 := n3_; have HO471 := n4_; have HO474 := n5_; have HO478 := n6_; clear n0_; clear n1_; clear n2_; clear n3_; clear n4_; clear n5_; clear n6_; have HO482 := zM (iv_S ho0 HB.1.size); clear ho0; have n_ := zM (show _ ∧ wx10.heap.size ≤ wx11.heap.size from ⟨HZ.out, hb.size⟩); clear HZ; have HZ := n_; clear n_; have n_ := zM (below_step HB.1 hb); clear HB; have HB := n_; clear n_ hb))
 go_wp2_with (first | (go_at_call 27; (refine (laws_eqHartS.calls k _ _ t469 _ _ t480 _ _ ((Kd.S_reads' HO471.1).2.2) ((Kd.S_reads' HO471.1).2.1) ((Kd.S_reads' HO482.1).2.2) ((Kd.S_reads' HO482.1).2.1) AE12.out).mono ?_); rintro e wx12 ⟨rfl, hb⟩; have n0_ := zM (Kd.R_below HO459.1 hb); have n1_ := zM (Kd.S_below HO462.1 hb); have n2_ := zM (Kd.S_below HO465.1 hb); have n3_ := zM (Kd.R_below HO468.1 hb); have n4_ := zM (Kd.S_below HO471.1 hb); have n5_ := zM (Kd.S_below HO474.1 hb); have n6_ := zM (Kd.R_below HO478.1 hb); have n7_ := zM (Kd.S_below HO482.1 hb); clear HO459; clear HO462; clear HO465; clear HO468; clear HO471; clear HO474; clear HO478; clear HO482; have HO459 := n0_; have HO462 := n1_; have HO465 := n2_; have HO468 := n3_; have HO471 := n4_; have HO474 := n5_; have HO478 := n6_; have HO482 := n7_; clear n0_; clear n1_; clear n2_; clear n3_; clear n4_; clear n5_; clear n6_; clear n7_; have n_ := zM (show _ ∧ wx11.heap.size ≤ wx12.heap.size from ⟨HZ.out, hb.size⟩); clear HZ; have HZ := n_; clear n_; have n_ := zM (below_step HB.1 hb); clear HB; have HB := n_; clear n_ hb))
 go_wp2_with (first | (go_at_call 28; (refine (laws_markIntS.calls k _ (.slice AHO468 t466.length cHO468) t466 1 t484 t485 w _ HB.1 (HO468.1) AE13.out).mono ?_); rintro e wx13 ⟨rfl, hy0, hb, hkp⟩; have n0_ := zM (Kd.R_kept HO459.1 hkp (fun k_ h1_ h2_ => (by have hz_ := HZ.out; have a_ := h1_.1; have b_ := h1_.2.1; have c_ := h2_.1; have d_ := h2_.2.1; clear h1_ h2_; omega))); have n1_ := zM (Kd.S_kept HO462.1 hkp (fun k_ h1_ h2_ => (by have hz_ := HZ.out; have a_ := h1_.1; have b_ := h1_.2.1; have c_ := h2_.1; have d_ := h2_.2.1; clear h1_ h2_; omega))); have n2_ := zM (Kd.S_kept HO465.1 hkp (fun k_ h1_ h2_ => (by have hz_ := HZ.out; have a_ := h1_.1; have b_ := h1_.2.1; have c_ := h2_.1; have d_ := h2_.2.1; clear h1_ h2_; omega))); have n3_ := zM (Kd.S_kept HO471.1 hkp (fun k_ h1_ h2_ => (by have hz_ := HZ.out; have a_ := h1_.1; have b_ := h1_.2.1; have c_ := h2_.1; have d_ := h2_.2.1; clear h1_ h2_; omega))); have n4_ := zM (Kd.S_kept HO474.1 hkp (fun k_ h1_ h2_ => (by have hz_ := HZ.out; have a_ := h1_.1; have b_ := h1_.2.1; have c_ := h2_.1; have d_ := h2_.2.1; clear h1_ h2_; omega))); have n5_ := zM (Kd.R_kept HO478.1 hkp (fun k_ h1_ h2_ => (by have hz_ := HZ.out; have a_ := h1_.1; have b_ := h1_.2.1; have c_ := h2_.1; have d_ := h2_.2.1; clear h1_ h2_; omega))); have n6_ := zM (Kd.S_kept HO482.1 hkp (fun k_ h1_ h2_ => (by have hz_ := HZ.out; have a_ := h1_.1; have b_ := h1_.2.1; have c_ := h2_.1; have d_ := h2_.2.1; clear h1_ h2_; omega))); clear HO459; clear HO462; clear HO465; clear HO471; clear HO474; clear HO478; clear HO482; have HO459 := n0_; have HO462 := n1_; have HO465 := n2_; have HO471 := n3_; have HO474 := n4_; have HO478 := n5_; have HO482 := n6_; clear n0_; clear n1_; clear n2_; clear n3_; clear n4_; clear n5_; clear n6_; have n_ := zM (Kd.R_reok rfl hy0 (fun k_ e_ => HO468.1.1 k_ e_)); have hl_ := (Kd.R_reads' n_.out).1; rw [hl_] at n_ ⊢; clear hl_ HO468; have HO468 := n_; clear n_; have n_ := zM (show _ ∧ wx12.heap.size ≤ wx13.heap.size from ⟨HZ.out, hkp.1⟩); clear HZ; have HZ := n_; clear n_; have n_ := zM hb; clear HB; have HB := n_; clear n_ hb hkp))
 go_wp2_with (first | (go_at_call 29; (refine (laws_markHartS.calls k _ (.slice AHO471 t469.length cHO471) t469 t484 t486 t487 w _ HB.1 (HO471.1) AE14.out).mono ?_); rintro e wx14 ⟨rfl, hy0, hb, hkp⟩; have n0_ := zM (Kd.R_kept HO459.1 hkp (fun k_ h1_ h2_ => (by have hz_ := HZ.out; have a_ := h1_.1; have b_ := h1_.2.1; have c_ := h2_.1; have d_ := h2_.2.1; clear h1_ h2_; omega))); have n1_ := zM (Kd.S_kept HO462.1 hkp (fun k_ h1_ h2_ => (by have hz_ := HZ.out; have a_ := h1_.1; have b_ := h1_.2.1; have c_ := h2_.1; have d_ := h2_.2.1; clear h1_ h2_; omega))); have n2_ := zM (Kd.S_kept HO465.1 hkp (fun k_ h1_ h2_ => (by have hz_ := HZ.out; have a_ := h1_.1; have b_ := h1_.2.1; have c_ := h2_.1; have d_ := h2_.2.1; clear h1_ h2_; omega))); have n3_ := zM (Kd.R_kept HO468.1 hkp (fun k_ h1_ h2_ => (by have hz_ := HZ.out; have a_ := h1_.1; have b_ := h1_.2.1; have c_ := h2_.1; have d_ := h2_.2.1; clear h1_ h2_; omega))); have n4_ := zM (Kd.S_kept HO474.1 hkp (fun k_ h1_ h2_ => (by have hz_ := HZ.out; have a_ := h1_.1; have b_ := h1_.2.1; have c_ := h2_.1; have d_ := h2_.2.1; clear h1_ h2_; omega))); have n5_ := zM (Kd.R_kept HO478.1 hkp (fun k_ h1_ h2_ => (by have hz_ := HZ.out; have a_ := h1_.1; have b_ := h1_.2.1; have c_ := h2_.1; have d_ := h2_.2.1; clear h1_ h2_; omega))); have n6_ := zM (Kd.S_kept HO482.1 hkp (fun k_ h1_ h2_ => (by have hz_ := HZ.out; have a_ := h1_.1; have b_ := h1_.2.1; have c_ := h2_.1; have d_ := h2_.2.1; clear h1_ h2_; omega))); clear HO459; clear HO462; clear HO465; clear HO468; clear HO474; clear HO478; clear HO482; have HO459 := n0_; have HO462 := n1_; have HO465 := n2_; have HO468 := n3_; have HO474 := n4_; have HO478 := n5_; have HO482 := n6_; clear n0_; clear n1_; clear n2_; clear n3_; clear n4_; clear n5_; clear n6_; have n_ := zM hy0; have hl_ := (Kd.S_reads' n_.out).1; rw [hl_] at n_ ⊢; clear hl_ HO471; have HO471 := n_; clear n_; have n_ := zM (show _ ∧ wx13.heap.size ≤ wx14.heap.size from ⟨HZ.out, hkp.1⟩); clear HZ; have HZ := n_; clear n_; have n_ := zM hb; clear HB; have HB := n_; clear n_ hb hkp))
 go_wp2_with (first | (go_at_call 25; (refine (laws_eqIntSS.calls k _ _ t472 _ _ t463 _ _ ((Kd.S_reads' HO474.1).2.2) ((Kd.S_reads' HO474.1).2.1) ((Kd.S_reads' HO465.1).2.2) ((Kd.S_reads' HO465.1).2.1) AE15.out).mono ?_); rintro e wx15 ⟨rfl, hd_⟩; have hb := hd_.below; clear hd_; have n0_ := zM (Kd.R_below HO459.1 hb); have n1_ := zM (Kd.S_below HO462.1 hb); have n2_ := zM (Kd.S_below HO465.1 hb); have n3_ := zM (Kd.R_below HO468.1 hb); have n4_ := zM (Kd.S_below HO471.1 hb); have n5_ := zM (Kd.S_below HO474.1 hb); have n6_ := zM (Kd.R_below HO478.1 hb); have n7_ := zM (Kd.S_below HO482.1 hb); clear HO459; clear HO462; clear HO465; clear HO468; clear HO471; clear HO474; clear HO478; clear HO482; have HO459 := n0_; have HO462 := n1_; have HO465 := n2_; have HO468 := n3_; have HO471 := n4_; have HO474 := n5_; have HO478 := n6_; have HO482 := n7_; clear n0_; clear n1_; clear n2_; clear n3_; clear n4_; clear n5_; clear n6_; clear n7_; have n_ := zM (show _ ∧ wx14.heap.size ≤ wx15.heap.size from ⟨HZ.out, hb.size⟩); clear HZ; have HZ := n_; clear n_; have n_ := zM (below_step HB.1 hb); clear HB; have HB := n_; clear n_ hb))
 go_wp2_with (first | (go_at_call 30; (refine (laws_markIntSS.calls k _ (.slice AHO474 t472.length cHO474) t472 1 t489 t490 w _ HB.1 (HO474.1) AE16.out).mono ?_); rintro e wx16 ⟨rfl, hy0, hb, hkp⟩; have n0_ := zM (Kd.R_kept HO459.1 hkp (fun k_ h1_ h2_ => (by have hz_ := HZ.out; have a_ := h1_.1; have b_ := h1_.2.1; have c_ := h2_.1; have d_ := h2_.2.1; clear h1_ h2_; omega))); have n1_ := zM (Kd.S_kept HO462.1 hkp (fun k_ h1_ h2_ => (by have hz_ := HZ.out; have a_ := h1_.1; have b_ := h1_.2.1; have c_ := h2_.1; have d_ := h2_.2.1; clear h1_ h2_; omega))); have n2_ := zM (Kd.S_kept HO465.1 hkp (fun k_ h1_ h2_ => (by have hz_ := HZ.out; have a_ := h1_.1; have b_ := h1_.2.1; have c_ := h2_.1; have d_ := h2_.2.1; clear h1_ h2_; omega))); have n3_ := zM (Kd.R_kept HO468.1 hkp (fun k_ h1_ h2_ => (by have hz_ := HZ.out; have a_ := h1_.1; have b_ := h1_.2.1; have c_ := h2_.1; have d_ := h2_.2.1; clear h1_ h2_; omega))); have n4_ := zM (Kd.S_kept HO471.1 hkp (fun k_ h1_ h2_ => (by have hz_ := HZ.out; have a_ := h1_.1; have b_ := h1_.2.1; have c_ := h2_.1; have d_ := h2_.2.1; clear h1_ h2_; omega))); have n5_ := zM (Kd.R_kept HO478.1 hkp (fun k_ h1_ h2_ => (by have hz_ := HZ.out; have a_ := h1_.1; have b_ := h1_.2.1; have c_ := h2_.1; have d_ := h2_.2.1; clear h1_ h2_; omega))); have n6_ := zM (Kd.S_kept HO482.1 hkp (fun k_ h1_ h2_ => (by have hz_ := HZ.out; have a_ := h1_.1; have b_ := h1_.2.1; have c_ := h2_.1; have d_ := h2_.2.1; clear h1_ h2_; omega))); clear HO459; clear HO462; clear HO465; clear HO468; clear HO471; clear HO478; clear HO482; have HO459 := n0_; have HO462 := n1_; have HO465 := n2_; have HO468 := n3_; have HO471 := n4_; have HO478 := n5_; have HO482 := n6_; clear n0_; clear n1_; clear n2_; clear n3_; clear n4_; clear n5_; clear n6_; have n_ := zM hy0; have hl_ := (Kd.S_reads' n_.out).1; rw [hl_] at n_ ⊢; clear hl_ HO474; have HO474 := n_; clear n_; have n_ := zM (show _ ∧ wx15.heap.size ≤ wx16.heap.size from ⟨HZ.out, hkp.1⟩); clear HZ; have HZ := n_; clear n_; have n_ := zM hb; clear HB; have HB := n_; clear n_ hb hkp))
 go_wp2_with (first | (go_at_call 31; (refine (laws_heldIntSS.calls k _ _ t490 1 t491 _ ((Kd.S_reads' HO474.1).2.2) ((Kd.S_reads' HO474.1).2.1) AE17.out).mono ?_); rintro e wx17 ⟨rfl, hd_⟩; have hb := hd_.below; clear hd_; have n0_ := zM (Kd.R_below HO459.1 hb); have n1_ := zM (Kd.S_below HO462.1 hb); have n2_ := zM (Kd.S_below HO465.1 hb); have n3_ := zM (Kd.R_below HO468.1 hb); have n4_ := zM (Kd.S_below HO471.1 hb); have n5_ := zM (Kd.S_below HO474.1 hb); have n6_ := zM (Kd.R_below HO478.1 hb); have n7_ := zM (Kd.S_below HO482.1 hb); clear HO459; clear HO462; clear HO465; clear HO468; clear HO471; clear HO474; clear HO478; clear HO482; have HO459 := n0_; have HO462 := n1_; have HO465 := n2_; have HO468 := n3_; have HO471 := n4_; have HO474 := n5_; have HO478 := n6_; have HO482 := n7_; clear n0_; clear n1_; clear n2_; clear n3_; clear n4_; clear n5_; clear n6_; clear n7_; have n_ := zM (show _ ∧ wx16.heap.size ≤ wx17.heap.size from ⟨HZ.out, hb.size⟩); clear HZ; have HZ := n_; clear n_; have n_ := zM (below_step HB.1 hb); clear HB; have HB := n_; clear n_ hb))
 go_wp2_with (first | (go_at_call 22; (refine (laws_toIntS.calls k _ _ l0 t492 _ ((Kd.C_below HR0.1 HB.1)) (HC0.1) AE18.out).mono ?_); rintro e wx18 ⟨v493, rfl, ho0, hb⟩; obtain ⟨AHO494, cHO494, e_⟩ := Kd.R_slice ho0; subst e_; have n0_ := zM (Kd.R_below HO459.1 hb); have n1_ := zM (Kd.S_below HO462.1 hb); have n2_ := zM (Kd.S_below HO465.1 hb); have n3_ := zM (Kd.R_below HO468.1 hb); have n4_ := zM (Kd.S_below HO471.1 hb); have n5_ := zM (Kd.S_below HO474.1 hb); have n6_ := zM (Kd.R_below HO478.1 hb); have n7_ := zM (Kd.S_below HO482.1 hb); clear HO459; clear HO462; clear HO465; clear HO468; clear HO471; clear HO474; clear HO478; clear HO482; have HO459 := n0_; have HO462 := n1_; have HO465 := n2_; have HO468 := n3_; have HO471 := n4_; have HO474 := n5_; have HO478 := n6_; have HO482 := n7_; clear n0_; clear n1_; clear n2_; clear n3_; clear n4_; clear n5_; clear n6_; clear n7_; have HO494 := zM (iv_O rfl ho0 HB.1.size); clear ho0; have n_ := zM (show _ ∧ wx17.heap.size ≤ wx18.heap.size from ⟨HZ.out, hb.size⟩); clear HZ; have HZ := n_; clear n_; have n_ := zM (below_step HB.1 hb); clear HB; have HB := n_; clear n_ hb))
 go_wp2_with (first | (go_at_call 23; (refine (laws_toHartS.calls k _ _ l1 t495 _ ((Kd.C_below HR1.1 HB.1)) (HC1.1) AE19.out).mono ?_); rintro e wx19 ⟨v496, rfl, ho0, hb⟩; obtain ⟨AHO497, cHO497, e_⟩ := Kd.S_slice ho0; subst e_; have n0_ := zM (Kd.R_below HO459.1 hb); have n1_ := zM (Kd.S_below HO462.1 hb); have n2_ := zM (Kd.S_below HO465.1 hb); have n3_ := zM (Kd.R_below HO468.1 hb); have n4_ := zM (Kd.S_below HO471.1 hb); have n5_ := zM (Kd.S_below HO474.1 hb); have n6_ := zM (Kd.R_below HO478.1 hb); have n7_ := zM (Kd.S_below HO482.1 hb); have n8_ := zM (Kd.R_below HO494.1 hb); clear HO459; clear HO462; clear HO465; clear HO468; clear HO471; clear HO474; clear HO478; clear HO482; clear HO494; have HO459 := n0_; have HO462 := n1_; have HO465 := n2_; have HO468 := n3_; have HO471 := n4_; have HO474 := n5_; have HO478 := n6_; have HO482 := n7_; have HO494 := n8_; clear n0_; clear n1_; clear n2_; clear n3_; clear n4_; clear n5_; clear n6_; clear n7_; clear n8_; have HO497 := zM (iv_S ho0 HB.1.size); clear ho0; have n_ := zM (show _ ∧ wx18.heap.size ≤ wx19.heap.size from ⟨HZ.out, hb.size⟩); clear HZ; have HZ := n_; clear n_; have n_ := zM (below_step HB.1 hb); clear HB; have HB := n_; clear n_ hb))
 go_wp2_with (first | (go_at_call 24; (refine (impl_Ends2.calls k _ _ t492 _ _ t495 a2 t498 _ ((Kd.R_reads' HO494.1).2.2) ((Kd.R_reads' HO494.1).2.1) ((Kd.S_reads' HO497.1).2.2) ((Kd.S_reads' HO497.1).2.1) AE20.out).mono ?_); rintro e wx20 ⟨v499, rfl, ho0, hb⟩; obtain ⟨AHO500, cHO500, e_⟩ := Kd.S_slice ho0; subst e_; have n0_ := zM (Kd.R_below HO459.1 hb); have n1_ := zM (Kd.S_below HO462.1 hb); have n2_ := zM (Kd.S_below HO465.1 hb); have n3_ := zM (Kd.R_below HO468.1 hb); have n4_ := zM (Kd.S_below HO471.1 hb); have n5_ := zM (Kd.S_below HO474.1 hb); have n6_ := zM (Kd.R_below HO478.1 hb); have n7_ := zM (Kd.S_below HO482.1 hb); have n8_ := zM (Kd.R_below HO494.1 hb); have n9_ := zM (Kd.S_below HO497.1 hb); clear HO459; clear HO462; clear HO465; clear HO468; clear HO471; clear HO474; clear HO478; clear HO482; clear HO494; clear HO497; have HO459 := n0_; have HO462 := n1_; have HO465 := n2_; have HO468 := n3_; have HO471 := n4_; have HO474 := n5_; have HO478 := n6_; have HO482 := n7_; have HO494 := n8_; have HO497 := n9_; clear n0_; clear n1_; clear n2_; clear n3_; clear n4_; clear n5_; clear n6_; clear n7_; clear n8_; clear n9_; have HO500 := zM (iv_S ho0 HB.1.size); clear ho0; have n_ := zM (show _ ∧ wx19.heap.size ≤ wx20.heap.size from ⟨HZ.out, hb.size⟩); clear HZ; have HZ := n_; clear n_; have n_ := zM (below_step HB.1 hb); clear HB; have HB := n_; clear n_ hb))
 go_wp2_with (first | (go_at_call 25; (refine (laws_eqIntSS.calls k _ _ t498 _ _ t463 _ _ ((Kd.S_reads' HO500.1).2.2) ((Kd.S_reads' HO500.1).2.1) ((Kd.S_reads' HO465.1).2.2) ((Kd.S_reads' HO465.1).2.1) AE21.out).mono ?_); rintro e wx21 ⟨rfl, hd_⟩; have hb := hd_.below; clear hd_; have n0_ := zM (Kd.R_below HO459.1 hb); have n1_ := zM (Kd.S_below HO462.1 hb); have n2_ := zM (Kd.S_below HO465.1 hb); have n3_ := zM (Kd.R_below HO468.1 hb); have n4_ := zM (Kd.S_below HO471.1 hb); have n5_ := zM (Kd.S_below HO474.1 hb); have n6_ := zM (Kd.R_below HO478.1 hb); have n7_ := zM (Kd.S_below HO482.1 hb); have n8_ := zM (Kd.R_below HO494.1 hb); have n9_ := zM (Kd.S_below HO497.1 hb); have n10_ := zM (Kd.S_below HO500.1 hb); clear HO459; clear HO462; clear HO465; clear HO468; clear HO471; clear HO474; clear HO478; clear HO482; clear HO494; clear HO497; clear HO500; have HO459 := n0_; have HO462 := n1_; have HO465 := n2_; have HO468 := n3_; have HO471 := n4_; have HO474 := n5_; have HO478 := n6_; have HO482 := n7_; have HO494 := n8_; have HO497 := n9_; have HO500 := n10_; clear n0_; clear n1_; clear n2_; clear n3_; clear n4_; clear n5_; clear n6_; clear n7_; clear n8_; clear n9_; clear n10_; have n_ := zM (show _ ∧ wx20.heap.size ≤ wx21.heap.size from ⟨HZ.out, hb.size⟩); clear HZ; have HZ := n_; clear n_; have n_ := zM (below_step HB.1 hb); clear HB; have HB := n_; clear n_ hb))
 go_wp2_with (first | (go_at_call 31; (refine (laws_heldIntSS.calls k _ _ t490 1 t502 _ ((Kd.S_reads' HO474.1).2.2) ((Kd.S_reads' HO474.1).2.1) AE22.out).mono ?_); rintro e wx22 ⟨rfl, hd_⟩; have hb := hd_.below; clear hd_; have n0_ := zM (Kd.R_below HO459.1 hb); have n1_ := zM (Kd.S_below HO462.1 hb); have n2_ := zM (Kd.S_below HO465.1 hb); have n3_ := zM (Kd.R_below HO468.1 hb); have n4_ := zM (Kd.S_below HO471.1 hb); have n5_ := zM (Kd.S_below HO474.1 hb); have n6_ := zM (Kd.R_below HO478.1 hb); have n7_ := zM (Kd.S_below HO482.1 hb); have n8_ := zM (Kd.R_below HO494.1 hb); have n9_ := zM (Kd.S_below HO497.1 hb); have n10_ := zM (Kd.S_below HO500.1 hb); clear HO459; clear HO462; clear HO465; clear HO468; clear HO471; clear HO474; clear HO478; clear HO482; clear HO494; clear HO497; clear HO500; have HO459 := n0_; have HO462 := n1_; have HO465 := n2_; have HO468 := n3_; have HO471 := n4_; have HO474 := n5_; have HO478 := n6_; have HO482 := n7_; have HO494 := n8_; have HO497 := n9_; have HO500 := n10_; clear n0_; clear n1_; clear n2_; clear n3_; clear n4_; clear n5_; clear n6_; clear n7_; clear n8_; clear n9_; clear n10_; have n_ := zM (show _ ∧ wx21.heap.size ≤ wx22.heap.size from ⟨HZ.out, hb.size⟩); clear HZ; have HZ := n_; clear n_; have n_ := zM (below_step HB.1 hb); clear HB; have HB := n_; clear n_ hb))
 go_ret
 exact ⟨rfl, HB.1⟩

/-- THE ONE PURE STATEMENT of laws_FnExactEnds2: yours. -/
def laws_FnExactEnds2.Pure : Prop := ∀ (l0 : List Int) (l1 : List (S68)) (a2 : Int), (l0.length ≤ maxLen ∧ ∀ y1_ ∈ l0, (Lit.int .i64 y1_).wf = true) → (l1.length ≤ maxLen ∧ ∀ y2_ ∈ l1, ((y2_.f0.length ≤ maxLen ∧ ∀ y3_ ∈ y2_.f0, (Lit.int .i64 y3_).wf = true) ∧ ((Lit.int .i64 y2_.f1).wf = true ∧ (Lit.int .i64 y2_.f2).wf = true))) → (Lit.int .i64 a2).wf = true → ∃ k, laws_FnExactEnds2.f k l0 l1 a2 = some true
theorem laws_FnExactEnds2.walk (P : laws_FnExactEnds2.Pure) (A0 : Option Addr) (c0 : Nat) (l0 : List Int) (A1 : Option Addr) (c1 : Nat) (l1 : List (S68)) (a2 : Int) (w : World) (hr0 : Kd.C (Kd.int .i64) w A0 l0.length l0) (hc0 : l0.length ≤ c0) (hr1 : Kd.C k68 w A1 l1.length l1) (hc1 : l1.length ≤ c1) (g0 : (l0.length ≤ maxLen ∧ ∀ y1_ ∈ l0, (Lit.int .i64 y1_).wf = true)) (g1 : (l1.length ≤ maxLen ∧ ∀ y2_ ∈ l1, ((y2_.f0.length ≤ maxLen ∧ ∀ y3_ ∈ y2_.f0, (Lit.int .i64 y3_).wf = true) ∧ ((Lit.int .i64 y2_.f1).wf = true ∧ (Lit.int .i64 y2_.f2).wf = true)))) (g2 : (Lit.int .i64 a2).wf = true) :
  Calls Try.prog 4 #[.slice A0 l0.length c0, .slice A1 l1.length c1, .int .i64 a2] w fun e w' => e = .returned (.bool true) ∧ Below w.heap.size w w' := by
 obtain ⟨k, h⟩ := P l0 l1 a2 g0 g1 g2
 exact laws_FnExactEnds2.calls k A0 c0 l0 A1 c1 l1 a2 true w hr0 hc0 hr1 hc1 rfl h

end Go.Proofs.Ytnjdepmlpdjghaa.PFnExactEnds2
