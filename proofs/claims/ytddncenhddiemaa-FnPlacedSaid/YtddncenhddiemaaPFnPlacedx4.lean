-- made by wip/tools/myprint.py out of the seat's translation
import Derived.Test.YtddncenhddiemaaPFnPlacedx0
import Derived.Test.YtddncenhddiemaaPFnPlacedx2
import Derived.Test.YtddncenhddiemaaPFnPlacedx3
namespace Go.Proofs.Ytddncenhddiemaa.PFnPlaced
open Go.RowKit Go.Proofs.YtddncenhddiemaaW.PrintWords Go.Proofs.YtddncenhddiemaaW.PrintLast Go.Proofs.YtddncenhddiemaaW.PrintMore
attribute [local go_sem] max2_int min2_int max_two min_two max_three min_three max_four min_four   -- for this text's walks alone
set_option linter.unusedVariables false
set_option linter.unusedSimpArgs false
theorem zR4 {p q : Prop} (x : q) (h : q → p := by intro h; (with_reducible repeat (first | apply Kd.R_alloc | apply Kd.R_drewN | apply Kd.R_drew)); exact h) : p := h x
theorem zK4 {p q : Prop} (x : q) (h : q → p := by intro h; (with_reducible repeat (first | refine blk_drewN ?_ _ | refine blk_drew ?_ | refine blk_alloc ?_ _)); exact h) : p := h x
theorem zA4 {p : Prop} [Decidable p] (h : decide p = true := by first | (with_reducible assumption) | assumption) : p := of_decide_eq_true h
theorem zT4 {p : Prop} (h : p := by (try simp only [List.map_toArray, List.map_cons, List.map_nil]); first | done | rfl | (simp only [List.length_drop, List.length_take]; rfl)) : p := h
theorem zC4 {p q : Prop} (x : q) (h : q → p := by intro h; repeat (first | exact h | (with_reducible refine Kd.C_alloc ?_ _) | (with_reducible refine Kd.C_drewN ?_ _) | (with_reducible refine Kd.C_drew ?_))) : p := h x
theorem zE4 {p : Prop} (h : p := by first | rfl | (simp [errW_none, errW_some] <;> rfl) | (simp [*, errW_none, errW_some] <;> rfl)) : p := h
theorem zB4_0 {p : Prop} (h : p := by repeat (first | (with_reducible first | exact HB.out | apply below_alloc | apply pw_below_drewN | apply below_drew1) | exact HB.out)) : p := h
theorem zB4_1 {p : Prop} (h : p := by repeat (first | (with_reducible first | exact HB.out | apply below_alloc | apply pw_below_drewN | apply below_drew1 | refine below_set ?_ GE170.out) | exact HB.out)) : p := h
theorem zB4_2 {p : Prop} (h : p := by repeat (first | (with_reducible first | exact HBW.out | apply below_alloc | apply pw_below_drewN | apply below_drew1) | exact HBW.out)) : p := h
theorem zB4_3 {p : Prop} (h : p := by repeat (first | (with_reducible first | exact HB.out | apply below_alloc | apply pw_below_drewN | apply below_drew1 | refine below_set ?_ GE195.out) | exact HB.out)) : p := h
theorem zB4_4 {p : Prop} (h : p := by repeat (first | (with_reducible first | exact HBW.out | apply below_alloc | apply pw_below_drewN | apply below_drew1 | refine below_set ?_ GW195.out) | exact HBW.out)) : p := h
theorem zB4_5 {p : Prop} (h : p := by repeat (first | (with_reducible first | exact HB.out | apply below_alloc | apply pw_below_drewN | apply below_drew1 | refine below_set ?_ GE196.out) | exact HB.out)) : p := h
theorem zB4_6 {p : Prop} (h : p := by repeat (first | (with_reducible first | exact HBW.out | apply below_alloc | apply pw_below_drewN | apply below_drew1 | refine below_set ?_ GW196.out) | exact HBW.out)) : p := h

/-! ### impl_Place: function 18 -/
theorem take3 {α : Type} (A B C : List α) (n : Nat) (h : A.length + B.length ≤ n) : (A ++ B ++ C).take n = A ++ (B ++ C.take (n - (A.length + B.length))) := by
  rw [List.append_assoc, List.take_append, List.take_of_length_le (by omega), List.take_append, List.take_of_length_le (l := B) (by omega), Nat.sub_sub]
theorem copy_at {P : Program} {ops : Array Oper} {rest : List Oper} {o : Oper} {a : Act} {Q : Exit → Act → World → Prop} {w0 W : World} (k : IntKind) (base : Nat) (hgd : o.guard = none) (s x : Operand) (t t' e : TypeId)
    (ho : o.op = .call { callee := .builtin .copy, args := #[s, x], argTypes := #[t, t'] }) (ht : P.underlying t = some (.slice e)) (hinfo : (P.info? e).map (·.size) = some 1)
    (ad : Option Addr) (cap i : Nat) (xs ys : List Int) (A : Option Addr) (c n m : Nat) (A' : Option Addr) (ok : Nat → Prop) (hs : a.eval s = .slice A' n m) (hA' : A' = if cap = i then ad else ad.map (·.add (i * 1))) (hn : n = xs.length - i) (hx : a.eval x = .slice A ys.length c)
    (HO : (Kd.int k).R e W base ok (.slice ad xs.length cap) xs) (HR : (Kd.int k).C W A ys.length ys) (hfit : i + ys.length ≤ xs.length) (HB : Below base w0 W) (hbase : base ≤ W.heap.size)
    (h : ∀ w1, (Kd.int k).R e w1 base ok (.slice ad xs.length cap) (xs.take i ++ (ys ++ xs.drop (i + ys.length))) → Below base w0 w1 → wpList P ops Q rest (a.put o.dst (.int .i64 (ys.length : Int))) w1) :
    wpList P ops Q (o :: rest) a W := by
  subst hn
  rw [Nat.mul_one] at hA'
  subst hA'
  have hR := Kd.reads_of_C (enc := Value.int k) (d := (0 : Int)) (h1 := fun _ => rfl) HR
  have hown := Kd.own_of_R (h1 := fun _ => rfl) (enc := Value.int k) HO
  have fin : ∀ w1, (Builtin.copy_ #[t, t'] o.type #[.slice (if cap = i then ad else ad.map (·.add i)) (xs.length - i) m, .slice A ys.length c]).run P W = .ok (goInt ((ys.length : Nat) : Int)) w1 → (Kd.int k).R e w1 base ok (.slice ad xs.length cap) (xs.take i ++ (ys ++ xs.drop (i + ys.length))) → W.grownBy w1 (Value.slice ad xs.length cap).ownBlock → wpList P ops Q (o :: rest) a W := by
    intro w1 hr hrow hg
    refine wpList_plain hgd fun K hK => ?_
    unfold Oper.wp execOp
    simp only [ho, resolve, invoke, builtin, Sem.run_bind, Sem.run_pure, Result.andThen_ok, List.map_toArray, List.map_cons, List.map_nil, hs, hx, hr]
    exact hK _ _ (h w1 hrow (HB.grown hg hbase (own_base hown)))
  rcases Nat.eq_zero_or_pos ys.length with h0 | hp
  · obtain rfl := List.eq_nil_of_length_eq_zero h0
    refine fin W ?_ (by simpa using HO) (World.grownBy.refl W _)
    exact run_copy_none W t t' o.type e _ A _ _ 0 c ht hinfo (by simp)
  · obtain ⟨ads, hA, hc⟩ := hR.2.2 (by omega)
    rcases hown.2 with ⟨_, hx0⟩ | ⟨g, cp, cur, hv, hb, hh, hnc, hcm, hcs, htake⟩
    · omega
    injection hv with hv1 _ hv3
    subst hv1
    subst hv3
    have hcs1 : cur.size = cap := by omega
    have hne : ¬ cap = i := by omega
    have hadd : (⟨g, 0, none⟩ : Addr).add i = ⟨g, i, none⟩ := add_plain g i
    rw [if_neg hne, Option.map_some, hadd] at fin
    have hsrc : ∀ j u, (encs (Value.int k) ys)[j]? = some u → W.cell? (ads.add j) = some u := by
      intro j u hu
      have hj : j < ys.length := by
        rcases Nat.lt_or_ge j ys.length with h | h
        · exact h
        · rw [List.getElem?_eq_none (by rw [encs_length]; exact h)] at hu
          cases hu
      rw [encs_get (d := 0) _ j hj] at hu
      rw [hc j (by omega), ← hu]
    have hkl : (encs (Value.int k) ys).length = ys.length := encs_length _
    have hr := run_copy_cells (P := P) W t t' o.type e g i (xs.length - i) m ads ys.length c (encs (Value.int k) ys) ht hinfo (by rw [hkl]; exact (Nat.min_eq_left (by omega)).symm) hsrc
      (fun j hj => by rw [cell_of_row W g _ cur e (0, 0) hh]; simp; omega) (fun j _ => blk_frozen hh _) (by intro u hu; simp only [encs, List.mem_map] at hu; obtain ⟨q, _, rfl⟩ := hu; rfl)
    obtain ⟨cur', h3, h4, h5⟩ := setCells_row (encs (Value.int k) ys) i W cur hh (by rw [hkl]; omega)
    obtain ⟨s1, s2, s3, s4⟩ := setCells_same g (encs (Value.int k) ys) i W
    have hln : (xs.take i ++ (ys ++ xs.drop (i + ys.length))).length = xs.length := by
      rw [List.length_append, List.length_append, List.length_take, List.length_drop]
      omega
    refine fin _ (by rw [hA, hr, hkl]) (Kd.R_of_own (h1 := fun _ => rfl) ?_ HO.1) ⟨s1, s2, s3, by rw [s4]; exact Nat.le_refl _, fun k _ hk => setCells_far _ _ k (fun he => hk (by rw [he]; simp [Value.ownBlock]))⟩
    rw [hln]
    refine ⟨by rw [encs_length, hln, Nat.mul_one], .inr ⟨g, cap, cur', rfl, hb, h3, hnc, hcm, by rw [h4, hcs], ?_⟩⟩
    have htk : cur.toList.take xs.length = encs (Value.int k) xs := by rw [← htake, Nat.mul_one]
    have e1 : encs (Value.int k) (xs.take i) = cur.toList.take i := by
      have : encs (Value.int k) (xs.take i) = (encs (Value.int k) xs).take i := by simp [encs, List.map_take]
      rw [this, ← htk, List.take_take, Nat.min_eq_left (by omega)]
    have e2 : encs (Value.int k) (xs.drop (i + ys.length)) = (cur.toList.drop (i + ys.length)).take (xs.length - (i + ys.length)) := by
      have : encs (Value.int k) (xs.drop (i + ys.length)) = (encs (Value.int k) xs).drop (i + ys.length) := by simp [encs, List.map_drop]
      rw [this, ← htk, List.drop_take]
    rw [h5, encs_append, encs_append, e1, e2, hkl, Nat.mul_one]
    have hl : cur.toList.length = cap := by rw [Array.length_toList, hcs1]
    rw [take3 _ _ _ _ (by rw [List.length_take, hkl, hl]; omega), List.length_take, hkl, hl, Nat.min_eq_left (by omega)]
def impl_Place.f (k : Nat) (l0 : List Int) (a1 : Int) (l2 : List Int) : Option (List Int × Bool) := (slices_Clone_int_int.f l0).bind fun t129 => ((impl_memOk.f k l0).bind fun t132 => (if t132 = true then ((impl_from.f a1 0 24).bind fun t133 => (if t133 = true then (if (l2.length : Int) > (wrap64 (24 - a1)) then (some (t129, false)) else ((impl_wordsOk.f k l2 (l2.length : Int)).bind fun t134 => (if t134 = true then (if 0 ≤ a1 then (if a1 ≤ (t129.length : Int) then (if (a1 : Int).toNat + l2.length ≤ t129.length then (some (t129.take (a1 : Int).toNat ++ (l2 ++ t129.drop ((a1 : Int).toNat + l2.length)), true)) else (none)) else (none)) else (none)) else (some (t129, false))))) else (some (t129, false)))) else (some (t129, false))))
theorem impl_Place.mono : ∀ a0 a1 a2 k, LeO (impl_Place.f k a0 a1 a2) (impl_Place.f (k + 1) a0 a1 a2) := by
  intro a0 a1 a2 k
  unfold impl_Place.f
  repeat' first
      | (with_reducible exact impl_memOk.mono _ _)
      | (with_reducible exact impl_wordsOk.mono _ _ _)
      | (with_reducible exact LeO.refl _)
      | (with_reducible exact LeO.none _)
      | (with_reducible refine LeO.ite ?_ ?_)
      | (with_reducible refine LeO.bind ?_ (fun _ => ?_))
      | exact impl_memOk.mono _ _
      | exact impl_wordsOk.mono _ _ _
      | exact LeO.none _
      | refine LeO.ite ?_ ?_
      | refine LeO.bind ?_ (fun _ => ?_)
set_option maxHeartbeats 8000000 in
set_option maxRecDepth 100000 in
theorem impl_Place.calls (k : Nat) (A0 : Option Addr) (c0 : Nat) (l0 : List Int) (a1 : Int) (A2 : Option Addr) (c2 : Nat) (l2 : List Int) (r1 : List Int) (r2 : Bool) (w : World) (hr0 : Kd.C (Kd.int .i64) w A0 l0.length l0) (hc0 : l0.length ≤ c0) (hr2 : Kd.C (Kd.int .i64) w A2 l2.length l2) (hc2 : l2.length ≤ c2) (h : impl_Place.f k l0 a1 l2 = some (r1, r2)) :
    Calls Try.prog 18 #[.slice A0 l0.length c0, .int .i64 a1, .slice A2 l2.length c2] w fun e w' => ∃ v0_ : Value, e = .returned (.tuple #[v0_, .bool r2]) ∧ Kd.R (Kd.int .i64) 3 w' w.heap.size (fun _ => True) v0_ r1 ∧ Below w.heap.size w w' := by
  have HR0 := Aside0.mk hr0
  have HC0 := Aside0.mk hc0
  clear hr0 hc0
  have HR2 := Aside0.mk hr2
  have HC2 := Aside0.mk hc2
  clear hr2 hc2
  have HB := Aside0.mk (Below.refl w.heap.size w)
  have H : ((slices_Clone_int_int.f l0).bind fun t129 => ((impl_memOk.f k l0).bind fun t132 => (if t132 = true then ((impl_from.f a1 0 24).bind fun t133 => (if t133 = true then (if (l2.length : Int) > (wrap64 (24 - a1)) then (some (t129, false)) else ((impl_wordsOk.f k l2 (l2.length : Int)).bind fun t134 => (if t134 = true then (if 0 ≤ a1 then (if a1 ≤ (t129.length : Int) then (if (a1 : Int).toNat + l2.length ≤ t129.length then (some (t129.take (a1 : Int).toNat ++ (l2 ++ t129.drop ((a1 : Int).toNat + l2.length)), true)) else (none)) else (none)) else (none)) else (some (t129, false))))) else (some (t129, false)))) else (some (t129, false))))) = some (r1, r2) := h
  clear h
  replace H := Option.bind_eq_some_iff.mp H
  obtain ⟨t129, A40, H⟩ := H
  replace H : ((impl_memOk.f k l0).bind fun t132 => (if t132 = true then ((impl_from.f a1 0 24).bind fun t133 => (if t133 = true then (if (l2.length : Int) > (wrap64 (24 - a1)) then (some (t129, false)) else ((impl_wordsOk.f k l2 (l2.length : Int)).bind fun t134 => (if t134 = true then (if 0 ≤ a1 then (if a1 ≤ (t129.length : Int) then (if (a1 : Int).toNat + l2.length ≤ t129.length then (some (t129.take (a1 : Int).toNat ++ (l2 ++ t129.drop ((a1 : Int).toNat + l2.length)), true)) else (none)) else (none)) else (none)) else (some (t129, false))))) else (some (t129, false)))) else (some (t129, false)))) = some (r1, r2) := H
  have A4 := Aside0.mk A40
  clear A40
  replace H := Option.bind_eq_some_iff.mp H
  obtain ⟨t132, A50, H⟩ := H
  replace H : (if t132 = true then ((impl_from.f a1 0 24).bind fun t133 => (if t133 = true then (if (l2.length : Int) > (wrap64 (24 - a1)) then (some (t129, false)) else ((impl_wordsOk.f k l2 (l2.length : Int)).bind fun t134 => (if t134 = true then (if 0 ≤ a1 then (if a1 ≤ (t129.length : Int) then (if (a1 : Int).toNat + l2.length ≤ t129.length then (some (t129.take (a1 : Int).toNat ++ (l2 ++ t129.drop ((a1 : Int).toNat + l2.length)), true)) else (none)) else (none)) else (none)) else (some (t129, false))))) else (some (t129, false)))) else (some (t129, false))) = some (r1, r2) := H
  have A5 := Aside0.mk A50
  clear A50
  by_cases c6 : t132 = true
  rotate_left
  · replace c6 := Bool.eq_false_iff.mpr c6
    subst c6
    have H1 : (some (t129, false)) = some (r1, r2) := by rw [if_neg (show ¬ (false = true) by decide)] at H; exact H
    clear H
    have H := H1
    clear H1
    simp only [Option.some.injEq, Prod.mk.injEq] at H
    obtain ⟨rfl, rfl⟩ := H
    go_enter Try.func18, Try.ntmps18
    go_wp2_with (first | ((with_reducible refine gate_callee (f := 85) rfl ?_); refine goesL_ (some 10) rfl rfl Try.func85 (by kernel_rfl) rfl #[.slice A0 l0.length c0] rfl zT4 ?_; (with_reducible refine (slices_Clone_int_int.calls _ _ l0 t129 _ ?side1 ?side2 A4.out).mono ?_); (case side1 => exact zC4 HR0.out); (case side2 => exact HC0.out); rintro e w20 ⟨v130, rfl, ho0, hb⟩; refine ⟨_, rfl, ?_⟩; have n0_ := Aside0.mk (Kd.R_lower ho0 (below_size (zB4_0))); have n1_ := Aside0.mk (below_step (zB4_0) hb); clear HB; have HO131 := n0_; have HB := n1_; clear n0_ n1_; (try clear hb); (try clear hb2); (try clear hk); (try clear hi); (try clear ho0)) | ((with_reducible refine gate_callee (f := 86) rfl ?_); refine goesL_ (some 12) rfl rfl Try.func86 (by kernel_rfl) rfl #[.slice A0 l0.length c0] rfl zT4 ?_; (with_reducible refine (impl_memOk.calls k _ _ l0 false _ ?side1 ?side2 A5.out).mono ?_); (case side1 => exact zC4 (Kd.C_below HR0.out HB.out)); (case side2 => exact HC0.out); rintro e w' ⟨rfl, ⟨nd, rfl⟩⟩; refine ⟨_, rfl, ?_⟩))
    go_ret2
    exact ⟨_, zE4, zR4 HO131.out, zB4_0⟩
  subst c6
  have H1 : ((impl_from.f a1 0 24).bind fun t133 => (if t133 = true then (if (l2.length : Int) > (wrap64 (24 - a1)) then (some (t129, false)) else ((impl_wordsOk.f k l2 (l2.length : Int)).bind fun t134 => (if t134 = true then (if 0 ≤ a1 then (if a1 ≤ (t129.length : Int) then (if (a1 : Int).toNat + l2.length ≤ t129.length then (some (t129.take (a1 : Int).toNat ++ (l2 ++ t129.drop ((a1 : Int).toNat + l2.length)), true)) else (none)) else (none)) else (none)) else (some (t129, false))))) else (some (t129, false)))) = some (r1, r2) := by rw [if_pos rfl] at H; exact H
  clear H
  have H := H1
  clear H1
  replace H := Option.bind_eq_some_iff.mp H
  obtain ⟨t133, A70, H⟩ := H
  replace H : (if t133 = true then (if (l2.length : Int) > (wrap64 (24 - a1)) then (some (t129, false)) else ((impl_wordsOk.f k l2 (l2.length : Int)).bind fun t134 => (if t134 = true then (if 0 ≤ a1 then (if a1 ≤ (t129.length : Int) then (if (a1 : Int).toNat + l2.length ≤ t129.length then (some (t129.take (a1 : Int).toNat ++ (l2 ++ t129.drop ((a1 : Int).toNat + l2.length)), true)) else (none)) else (none)) else (none)) else (some (t129, false))))) else (some (t129, false))) = some (r1, r2) := H
  have A7 := Aside0.mk A70
  clear A70
  by_cases c8 : t133 = true
  rotate_left
  · replace c8 := Bool.eq_false_iff.mpr c8
    subst c8
    have H1 : (some (t129, false)) = some (r1, r2) := by rw [if_neg (show ¬ (false = true) by decide)] at H; exact H
    clear H
    have H := H1
    clear H1
    simp only [Option.some.injEq, Prod.mk.injEq] at H
    obtain ⟨rfl, rfl⟩ := H
    go_enter Try.func18, Try.ntmps18
    go_wp2_with (first | ((with_reducible refine gate_callee (f := 85) rfl ?_); refine goesL_ (some 10) rfl rfl Try.func85 (by kernel_rfl) rfl #[.slice A0 l0.length c0] rfl zT4 ?_; (with_reducible refine (slices_Clone_int_int.calls _ _ l0 t129 _ ?side1 ?side2 A4.out).mono ?_); (case side1 => exact zC4 HR0.out); (case side2 => exact HC0.out); rintro e w19 ⟨v130, rfl, ho0, hb⟩; refine ⟨_, rfl, ?_⟩; have n0_ := Aside0.mk (Kd.R_lower ho0 (below_size (zB4_0))); have n1_ := Aside0.mk (below_step (zB4_0) hb); clear HB; have HO131 := n0_; have HB := n1_; clear n0_ n1_; (try clear hb); (try clear hb2); (try clear hk); (try clear hi); (try clear ho0)) | ((with_reducible refine gate_callee (f := 86) rfl ?_); refine goesL_ (some 12) rfl rfl Try.func86 (by kernel_rfl) rfl #[.slice A0 l0.length c0] rfl zT4 ?_; (with_reducible refine (impl_memOk.calls k _ _ l0 true _ ?side1 ?side2 A5.out).mono ?_); (case side1 => exact zC4 (Kd.C_below HR0.out HB.out)); (case side2 => exact HC0.out); rintro e w' ⟨rfl, ⟨nd, rfl⟩⟩; refine ⟨_, rfl, ?_⟩) | (go_at_call 87; (with_reducible refine (impl_from.calls a1 0 24 false _ A7.out).mono ?_); rintro e w' ⟨rfl, ⟨nd, rfl⟩⟩))
    go_ret2
    exact ⟨_, zE4, zR4 HO131.out, zB4_0⟩
  subst c8
  have H1 : (if (l2.length : Int) > (wrap64 (24 - a1)) then (some (t129, false)) else ((impl_wordsOk.f k l2 (l2.length : Int)).bind fun t134 => (if t134 = true then (if 0 ≤ a1 then (if a1 ≤ (t129.length : Int) then (if (a1 : Int).toNat + l2.length ≤ t129.length then (some (t129.take (a1 : Int).toNat ++ (l2 ++ t129.drop ((a1 : Int).toNat + l2.length)), true)) else (none)) else (none)) else (none)) else (some (t129, false))))) = some (r1, r2) := by rw [if_pos rfl] at H; exact H
  clear H
  have H := H1
  clear H1
  by_cases c9 : (l2.length : Int) > (wrap64 (24 - a1))
  · rw [if_pos c9] at H
    have c9b0 : decide ((wrap64 (24 - a1)) < (l2.length : Int)) = true := decide_eq_true c9
    clear c9
    simp only [Option.some.injEq, Prod.mk.injEq] at H
    obtain ⟨rfl, rfl⟩ := H
    go_enter Try.func18, Try.ntmps18
    go_wp2_with (first | ((with_reducible refine gate_callee (f := 85) rfl ?_); refine goesL_ (some 10) rfl rfl Try.func85 (by kernel_rfl) rfl #[.slice A0 l0.length c0] rfl zT4 ?_; (with_reducible refine (slices_Clone_int_int.calls _ _ l0 t129 _ ?side1 ?side2 A4.out).mono ?_); (case side1 => exact zC4 HR0.out); (case side2 => exact HC0.out); rintro e w10 ⟨v130, rfl, ho0, hb⟩; refine ⟨_, rfl, ?_⟩; have n0_ := Aside0.mk (Kd.R_lower ho0 (below_size (zB4_0))); have n1_ := Aside0.mk (below_step (zB4_0) hb); clear HB; have HO131 := n0_; have HB := n1_; clear n0_ n1_; (try clear hb); (try clear hb2); (try clear hk); (try clear hi); (try clear ho0)) | ((with_reducible refine gate_callee (f := 86) rfl ?_); refine goesL_ (some 12) rfl rfl Try.func86 (by kernel_rfl) rfl #[.slice A0 l0.length c0] rfl zT4 ?_; (with_reducible refine (impl_memOk.calls k _ _ l0 true _ ?side1 ?side2 A5.out).mono ?_); (case side1 => exact zC4 (Kd.C_below HR0.out HB.out)); (case side2 => exact HC0.out); rintro e w' ⟨rfl, ⟨nd, rfl⟩⟩; refine ⟨_, rfl, ?_⟩) | (go_at_call 87; (with_reducible refine (impl_from.calls a1 0 24 true _ A7.out).mono ?_); rintro e w' ⟨rfl, ⟨nd, rfl⟩⟩))
    go_ret2
    exact ⟨_, zE4, zR4 HO131.out, zB4_0⟩
  rw [if_neg c9] at H
  have c9b0 : decide ((wrap64 (24 - a1)) < (l2.length : Int)) = false := decide_eq_false c9
  clear c9
  replace H := Option.bind_eq_some_iff.mp H
  obtain ⟨t134, A110, H⟩ := H
  replace H : (if t134 = true then (if 0 ≤ a1 then (if a1 ≤ (t129.length : Int) then (if (a1 : Int).toNat + l2.length ≤ t129.length then (some (t129.take (a1 : Int).toNat ++ (l2 ++ t129.drop ((a1 : Int).toNat + l2.length)), true)) else (none)) else (none)) else (none)) else (some (t129, false))) = some (r1, r2) := H
  have A11 := Aside0.mk A110
  clear A110
  by_cases c12 : t134 = true
  rotate_left
  · replace c12 := Bool.eq_false_iff.mpr c12
    subst c12
    have H1 : (some (t129, false)) = some (r1, r2) := by rw [if_neg (show ¬ (false = true) by decide)] at H; exact H
    clear H
    have H := H1
    clear H1
    simp only [Option.some.injEq, Prod.mk.injEq] at H
    obtain ⟨rfl, rfl⟩ := H
    go_enter Try.func18, Try.ntmps18
    go_wp2_with (first | ((with_reducible refine gate_callee (f := 85) rfl ?_); refine goesL_ (some 10) rfl rfl Try.func85 (by kernel_rfl) rfl #[.slice A0 l0.length c0] rfl zT4 ?_; (with_reducible refine (slices_Clone_int_int.calls _ _ l0 t129 _ ?side1 ?side2 A4.out).mono ?_); (case side1 => exact zC4 HR0.out); (case side2 => exact HC0.out); rintro e w18 ⟨v130, rfl, ho0, hb⟩; refine ⟨_, rfl, ?_⟩; have n0_ := Aside0.mk (Kd.R_lower ho0 (below_size (zB4_0))); have n1_ := Aside0.mk (below_step (zB4_0) hb); clear HB; have HO131 := n0_; have HB := n1_; clear n0_ n1_; (try clear hb); (try clear hb2); (try clear hk); (try clear hi); (try clear ho0)) | ((with_reducible refine gate_callee (f := 86) rfl ?_); refine goesL_ (some 12) rfl rfl Try.func86 (by kernel_rfl) rfl #[.slice A0 l0.length c0] rfl zT4 ?_; (with_reducible refine (impl_memOk.calls k _ _ l0 true _ ?side1 ?side2 A5.out).mono ?_); (case side1 => exact zC4 (Kd.C_below HR0.out HB.out)); (case side2 => exact HC0.out); rintro e w' ⟨rfl, ⟨nd, rfl⟩⟩; refine ⟨_, rfl, ?_⟩) | (go_at_call 87; (with_reducible refine (impl_from.calls a1 0 24 true _ A7.out).mono ?_); rintro e w' ⟨rfl, ⟨nd, rfl⟩⟩) | (go_at_call 88; (with_reducible refine (impl_wordsOk.calls k _ _ l2 (l2.length : Int) false _ ?side1 ?side2 A11.out).mono ?_); (case side1 => repeat (first | exact (Kd.C_below HR2.out (zB4_0)) | (with_reducible refine Kd.C_alloc ?_ _) | (with_reducible refine Kd.C_drewN ?_ _) | (with_reducible refine Kd.C_drew ?_))); (case side2 => exact HC2.out); rintro e w' ⟨rfl, ⟨nd, rfl⟩⟩))
    go_ret2
    exact ⟨_, zE4, zR4 HO131.out, zB4_0⟩
  subst c12
  have H1 : (if 0 ≤ a1 then (if a1 ≤ (t129.length : Int) then (if (a1 : Int).toNat + l2.length ≤ t129.length then (some (t129.take (a1 : Int).toNat ++ (l2 ++ t129.drop ((a1 : Int).toNat + l2.length)), true)) else (none)) else (none)) else (none)) = some (r1, r2) := by rw [if_pos rfl] at H; exact H
  clear H
  have H := H1
  clear H1
  by_cases c13 : 0 ≤ a1
  rotate_left
  · rw [if_neg c13] at H
    exact absurd H (by simp)
  rw [if_pos c13] at H
  have c13b0 := eq_true c13
  have c13b1 : decide (0 ≤ a1) = true := decide_eq_true c13
  clear c13
  by_cases c14 : a1 ≤ (t129.length : Int)
  rotate_left
  · rw [if_neg c14] at H
    exact absurd H (by simp)
  rw [if_pos c14] at H
  have c14b0 := eq_true c14
  have c14b1 : decide (a1 ≤ (t129.length : Int)) = true := decide_eq_true c14
  clear c14
  by_cases c15 : (a1 : Int).toNat + l2.length ≤ t129.length
  rotate_left
  · rw [if_neg c15] at H
    exact absurd H (by simp)
  rw [if_pos c15] at H
  have C15 := Aside0.mk c15
  clear c15
  obtain ⟨y135, hy135⟩ : ∃ y_ : List Int, y_ = (t129.drop (a1 : Int).toNat) := ⟨_, rfl⟩
  replace H : (some (t129.take (a1 : Int).toNat ++ (l2 ++ t129.drop ((a1 : Int).toNat + l2.length)), true)) = some (r1, r2) := by first | (rw [hy135]; with_reducible exact H) | (have H2_ := (Option.bind_some _ _).symm.trans H; rw [hy135]; with_reducible exact H2_) | (have H2_ := (Option.bind_some _ _).symm.trans H; with_reducible exact H2_) | with_reducible exact H | (rw [hy135]; exact H) | exact H
  have Ny135 := Aside0.mk hy135
  clear hy135
  simp only [Option.some.injEq, Prod.mk.injEq] at H
  obtain ⟨rfl, rfl⟩ := H
  go_enter Try.func18, Try.ntmps18
  go_wp2_with (first | ((with_reducible refine gate_callee (f := 85) rfl ?_); refine goesL_ (some 10) rfl rfl Try.func85 (by kernel_rfl) rfl #[.slice A0 l0.length c0] rfl zT4 ?_; (with_reducible refine (slices_Clone_int_int.calls _ _ l0 t129 _ ?side1 ?side2 A4.out).mono ?_); (case side1 => exact zC4 HR0.out); (case side2 => exact HC0.out); rintro e w15 ⟨v130, rfl, ho0, hb⟩; refine ⟨_, rfl, ?_⟩; have n0_ := Aside0.mk (Kd.R_lower ho0 (below_size (zB4_0))); have n1_ := Aside0.mk (below_step (zB4_0) hb); clear HB; have HO131 := n0_; have HB := n1_; clear n0_ n1_; (try clear hb); (try clear hb2); (try clear hk); (try clear hi); (try clear ho0)) | ((with_reducible refine gate_callee (f := 86) rfl ?_); refine goesL_ (some 12) rfl rfl Try.func86 (by kernel_rfl) rfl #[.slice A0 l0.length c0] rfl zT4 ?_; (with_reducible refine (impl_memOk.calls k _ _ l0 true _ ?side1 ?side2 A5.out).mono ?_); (case side1 => exact zC4 (Kd.C_below HR0.out HB.out)); (case side2 => exact HC0.out); rintro e w' ⟨rfl, ⟨nd, rfl⟩⟩; refine ⟨_, rfl, ?_⟩) | (go_at_call 87; (with_reducible refine (impl_from.calls a1 0 24 true _ A7.out).mono ?_); rintro e w' ⟨rfl, ⟨nd, rfl⟩⟩) | (go_at_call 88; (with_reducible refine (impl_wordsOk.calls k _ _ l2 (l2.length : Int) true _ ?side1 ?side2 A11.out).mono ?_); (case side1 => repeat (first | exact (Kd.C_below HR2.out (zB4_0)) | (with_reducible refine Kd.C_alloc ?_ _) | (with_reducible refine Kd.C_drewN ?_ _) | (with_reducible refine Kd.C_drew ?_))); (case side2 => exact HC2.out); rintro e w' ⟨rfl, ⟨nd, rfl⟩⟩; obtain ⟨Ao17, co17, eo17⟩ := Kd.R_slice HO131.out; subst eo17; have q16 : (a1 : Int) ≤ ((t129.length : Int) : Int) := zA4; obtain ⟨i016, hi016, _, hsz16, _⟩ := info_parts info3; have hroom16 : t129.length ≤ co17 := (Kd.R_reads' HO131.out).2.1; have hC16 : Kd.C (Kd.int .i64) _ Ao17 t129.length t129 := (Kd.R_reads' HO131.out).2.2; have q016 : (0 : Int) ≤ (a1 : Int) := zA4; have hcut16 := cut_from (P := Try.prog) 25 3 .i64 Try.underlying25 hi016 1 hsz16 Ao17 t129.length co17 a1 q016 q16; have hr16 := Kd.C_drop (m := (a1 : Int).toNat) (c := co17) hC16 (by omega) hroom16; obtain ⟨A16, hA16⟩ : ∃ A1, A1 = (if co17 = (a1 : Int).toNat then Ao17 else (Ao17 : Option Addr).map (·.add ((a1 : Int).toNat * 1))) := ⟨_, rfl⟩; obtain ⟨c16, hc16⟩ : ∃ c1, c1 = co17 - (a1 : Int).toNat := ⟨_, rfl⟩; have hy16 : y135.length = t129.length - (a1 : Int).toNat := (by rw [Ny135.out, List.length_drop] <;> omega); rw [show (t129).drop (a1 : Int).toNat = y135 from Ny135.out.symm] at hr16; replace hr16 : Kd.C (Kd.int .i64) _ A16 y135.length y135 := (by rw [hA16]; exact hr16); rw [← hy16, ← hA16, ← hc16] at hcut16; have HR138 := Aside0.mk hr16; have HC138 := Aside0.mk (show y135.length ≤ c16 from by rw [hy16, hc16]; exact Nat.sub_le_sub_right hroom16 _); clear hr16 hC16 hroom16 hi016 hsz16 hc16; have KY16 := Aside0.mk hy16; have KA16 := Aside0.mk hA16; clear hy16 hA16; have KL16 := Aside0.mk (show (a1 : Int).toNat ≤ t129.length from by omega); replace q16 := eq_true q16) | ((with_reducible refine gate_builtin (b := .copy) (xs := #[.tmp 36, .tmp 37]) rfl ?_); refine copy_at .i64 (w0 := w) w.heap.size rfl (.tmp 36) (.tmp 37) 25 25 3 rfl Try.underlying25 (by kernel_rfl) Ao17 co17 (a1 : Int).toNat t129 l2 _ _ _ _ _ (fun _ => True) rfl KA16.out KY16.out rfl ?aO ?aR C15.out ?aB ?aS ?_; (case aO => exact (zR4 HO131.out)); (case aR => repeat (first | exact (Kd.C_below HR2.out (zB4_0)) | (with_reducible refine Kd.C_alloc ?_ _) | (with_reducible refine Kd.C_drewN ?_ _) | (with_reducible refine Kd.C_drew ?_))); (case aB => exact (zB4_0)); (case aS => exact (below_size (zB4_0))); intro w33 ho hb; have n0_ := Aside0.mk ho; have n1_ := Aside0.mk hb; clear HO131 HB; have HO131 := n0_; have HB := n1_; clear n0_ n1_; clear ho hb))
  go_ret2
  exact ⟨_, zE4, zR4 HO131.out, zB4_0⟩

-- NOT PRINTED: function 156 (impl_Hart_156)

-- NOT PRINTED: function 93 (impl_Hart_93)

/-! ### impl_AllHalt_1: function 94 -/
def impl_AllHalt_1.f (l0_0 : List Int) (a0_1 : Int) (a0_2 : Int) : Option (Bool) := some (a0_2 != 1)
set_option maxHeartbeats 8000000 in
set_option maxRecDepth 100000 in
theorem impl_AllHalt_1.calls (A0_0 : Option Addr) (c0_0 : Nat) (l0_0 : List Int) (a0_1 : Int) (a0_2 : Int) (r : Bool) (w : World) (hr0_0 : Kd.C (Kd.int .i64) w A0_0 l0_0.length l0_0) (hc0_0 : l0_0.length ≤ c0_0) (h : impl_AllHalt_1.f l0_0 a0_1 a0_2 = some r) :
    Calls Try.prog 94 #[.agg #[.slice A0_0 l0_0.length c0_0, .int .i64 a0_1, .int .i64 a0_2]] w fun e w' => e = .returned (.bool r) ∧ Below w.heap.size w w' := by
  have hu31 := Try.underlying31
  have HR0_0 := Aside0.mk hr0_0
  have HC0_0 := Aside0.mk hc0_0
  clear hr0_0 hc0_0
  have HB := Aside0.mk (Below.refl w.heap.size w)
  have H : (some (a0_2 != 1)) = some r := h
  clear h
  obtain rfl := Option.some.inj H
  go_enter Try.func94, Try.ntmps94
  go_wp2_with (first | ((with_reducible refine gate_dst (N := 1) rfl ?_); refine box_event ?hg (N := 1) ?hd (cs := #[.slice A0_0 l0_0.length c0_0, .int .i64 a0_1, .int .i64 a0_2]) (t := 31) ?hr ?_; (case hd => rfl); (case hg => rfl); (case hr => first | (go_simp; done) | (go_simp; rfl)); intro gb170 hg w2 hbox hb; have n0_ := Aside0.mk (below_step (zB4_0) hb); have n1_ := Aside0.mk (hbox); have n2_ := Aside0.mk ((by rw [hg]; exact (below_size (zB4_0)) : w.heap.size ≤ gb170)); have n3_ := Aside0.mk ((by rw [hg]; exact (below_size (zB4_0)) : w.heap.size ≤ gb170)); clear HB; have HB := n0_; have BK170 := n1_; have GW170 := n2_; have GE170 := n3_; clear n0_ n1_ n2_ n3_; clear hb hbox hg; have hcz3_0 : w2.cell? ⟨gb170, 0, none⟩ = some (.slice A0_0 l0_0.length c0_0) := (blk_cell BK170.out 0).trans rfl; have hcz3_1 : w2.cell? ⟨gb170, 1, none⟩ = some (.int .i64 a0_1) := (blk_cell BK170.out 1).trans rfl; have hcz3_2 : w2.cell? ⟨gb170, 2, none⟩ = some (.int .i64 a0_2) := (blk_cell BK170.out 2).trans rfl; have hfz3_0 := blk_frozen BK170.out 0; have hfz3_1 := blk_frozen BK170.out 1; have hfz3_2 := blk_frozen BK170.out 2))
  go_ret
  exact ⟨zE4, zB4_1⟩

/-! ### slices_IndexFunc_at_impl_AllHalt_1: function 156 -/
def slices_IndexFunc_at_impl_AllHalt_1.l0 : Nat → List (S31) → Int → Int → Option (Int)
  | 0, _, _, _ => none
  | k + 1, x0, x7, x8 => if x8 < x7 then (if 0 ≤ x8 then (if x8 < (x0.length : Int) then ((impl_AllHalt_1.f ((rd_T31 x0 x8).f0) ((rd_T31 x0 x8).f1) ((rd_T31 x0 x8).f2)).bind fun t172 => (if t172 = true then (some x8) else (slices_IndexFunc_at_impl_AllHalt_1.l0 k x0 x7 (wrap64 (x8 + 1))))) else (none)) else (none)) else (some (-1))
def slices_IndexFunc_at_impl_AllHalt_1.f (k : Nat) (l0 : List (S31)) (a1 : Int) : Option (Int) := slices_IndexFunc_at_impl_AllHalt_1.l0 k l0 (l0.length : Int) 0
theorem slices_IndexFunc_at_impl_AllHalt_1.mono_l : ∀ k, (∀ y0 y1 y2, LeO (slices_IndexFunc_at_impl_AllHalt_1.l0 k y0 y1 y2) (slices_IndexFunc_at_impl_AllHalt_1.l0 (k + 1) y0 y1 y2))
  | 0 => fun _ _ _ r h => by simp [slices_IndexFunc_at_impl_AllHalt_1.l0] at h
  | k + 1 => by
    have ih0 := slices_IndexFunc_at_impl_AllHalt_1.mono_l k
    · intro y0 y1 y2
      unfold slices_IndexFunc_at_impl_AllHalt_1.l0
      repeat' first
      | (with_reducible exact ih0 _ _ _)
      | (with_reducible exact LeO.refl _)
      | (with_reducible exact LeO.none _)
      | (with_reducible refine LeO.ite ?_ ?_)
      | (with_reducible refine LeO.bind ?_ (fun _ => ?_))
      | exact ih0 _ _ _
      | exact LeO.none _
      | refine LeO.ite ?_ ?_
      | refine LeO.bind ?_ (fun _ => ?_)
theorem slices_IndexFunc_at_impl_AllHalt_1.mono : ∀ a0 a1 k, LeO (slices_IndexFunc_at_impl_AllHalt_1.f k a0 a1) (slices_IndexFunc_at_impl_AllHalt_1.f (k + 1) a0 a1) := by
  intro a0 a1 k
  have ih0 := slices_IndexFunc_at_impl_AllHalt_1.mono_l k
  unfold slices_IndexFunc_at_impl_AllHalt_1.f
  repeat' first
      | (with_reducible exact ih0 _ _ _)
      | (with_reducible exact LeO.refl _)
      | (with_reducible exact LeO.none _)
      | (with_reducible refine LeO.ite ?_ ?_)
      | (with_reducible refine LeO.bind ?_ (fun _ => ?_))
      | exact ih0 _ _ _
      | exact LeO.none _
      | refine LeO.ite ?_ ?_
      | refine LeO.bind ?_ (fun _ => ?_)
set_option maxHeartbeats 8000000 in
set_option maxRecDepth 100000 in
theorem slices_IndexFunc_at_impl_AllHalt_1.calls (k : Nat) (A0 : Option Addr) (c0 : Nat) (l0 : List (S31)) (a1 : Int) (r : Int) (w : World) (hr0 : Kd.C k31 w A0 l0.length l0) (hc0 : l0.length ≤ c0) (h : slices_IndexFunc_at_impl_AllHalt_1.f k l0 a1 = some r) :
    Calls Try.prog 156 #[.slice A0 l0.length c0, .func (.func 94) #[] #[]] w fun e w' => e = .returned (.int .i64 r) ∧ Below w.heap.size w w' := by
  have hu31 := Try.underlying31
  have HR0 := Aside0.mk hr0
  have HC0 := Aside0.mk hc0
  clear hr0 hc0
  have HB := Aside0.mk (Below.refl w.heap.size w)
  have H : (slices_IndexFunc_at_impl_AllHalt_1.l0 k l0 (l0.length : Int) 0) = some r := h
  clear h
  have H' := Aside0.mk H
  clear H
  go_enter Try.func156, Try.ntmps156
  go_wp2
  go_loopg [8] k (fun kq v8 w' => ∃ (x8_1 : Int), v8 = .int .i64 x8_1 ∧ Aside0 (slices_IndexFunc_at_impl_AllHalt_1.l0 kq l0 (l0.length : Int) x8_1 = some r) ∧ Aside0 (kq ≤ k) ∧ Aside0 (Below w.heap.size w w'))
  case atStart => exact ⟨(0), (by first | rfl | (simp; done) | (simp [*]; done)), H', ⟨Nat.le_refl _⟩, ⟨zB4_0⟩⟩
  case round =>
    clear H'
    try clear p2
    obtain ⟨x8_1, rfl, HA, HK1, HB⟩ := hrel
    cases gk with
    | zero => exact absurd HA.out (by simp [slices_IndexFunc_at_impl_AllHalt_1.l0])
    | succ k1 =>
      have H := HA.out
      clear HA
      simp only [slices_IndexFunc_at_impl_AllHalt_1.l0] at H
      by_cases c3 : x8_1 < (l0.length : Int)
      rotate_left
      · rw [if_neg c3] at H
        have c3b0 : decide (x8_1 < (l0.length : Int)) = false := decide_eq_false c3
        clear c3
        obtain rfl := Option.some.inj H
        go_wp2
        go_ret
        exact ⟨zE4, zB4_0⟩
      rw [if_pos c3] at H
      have c3b0 : decide (x8_1 < (l0.length : Int)) = true := decide_eq_true c3
      clear c3
      by_cases c4 : 0 ≤ x8_1
      rotate_left
      · rw [if_neg c4] at H
        exact absurd H (by simp)
      rw [if_pos c4] at H
      have c4b0 : decide (0 ≤ x8_1) = true := decide_eq_true c4
      clear c4
      by_cases c5 : x8_1 < (l0.length : Int)
      rotate_left
      · rw [if_neg c5] at H
        exact absurd H (by simp)
      rw [if_pos c5] at H
      have c5b0 : decide (x8_1 < (l0.length : Int)) = true := decide_eq_true c5
      clear c5
      replace H := Option.bind_eq_some_iff.mp H
      obtain ⟨t172, A60, H⟩ := H
      replace H : (if t172 = true then (some x8_1) else (slices_IndexFunc_at_impl_AllHalt_1.l0 k1 l0 (l0.length : Int) (wrap64 (x8_1 + 1)))) = some r := H
      have A6 := Aside0.mk A60
      clear A60
      by_cases c7 : t172 = true
      · subst c7
        have H1 : (some x8_1) = some r := by rw [if_pos rfl] at H; exact H
        clear H
        have H := H1
        clear H1
        obtain rfl := Option.some.inj H
        have p171 : 0 ≤ (x8_1 : Int) := zA4
        have q171 : x8_1 < (l0.length : Int) := zA4
        obtain ⟨ad171, A171_0, c171_0, e171, hx171_0, hx171_1, hx171_2, hl171_0, hi171_0⟩ := at_T31 HR0.out x8_1 p171 q171
        cases e171
        replace hx171_0 := (HB.out.cell (World.block_lt_of_cell? w _ hx171_0)).trans hx171_0
        replace hx171_1 := (HB.out.cell (World.block_lt_of_cell? w _ hx171_1)).trans hx171_1
        replace hx171_2 := (HB.out.cell (World.block_lt_of_cell? w _ hx171_2)).trans hx171_2
        have HR171_0 := Aside0.mk hi171_0
        have HC171_0 := Aside0.mk hl171_0
        clear hi171_0 hl171_0
        replace p171 := eq_true p171
        replace q171 := eq_true q171
        go_wp2_with (first | (go_at_call 94; (with_reducible refine (impl_AllHalt_1.calls _ _ ((rd_T31 l0 x8_1).f0) ((rd_T31 l0 x8_1).f1) ((rd_T31 l0 x8_1).f2) true _ ?side1 ?side2 A6.out).mono ?_); (case side1 => exact zC4 (Kd.C_below HR171_0.out HB.out)); (case side2 => exact HC171_0.out); rintro e w8 ⟨rfl, hb⟩; have n0_ := Aside0.mk (below_step (zB4_0) hb); clear HB; have HB := n0_; clear n0_; (try clear hb); (try clear hb2); (try clear hk); (try clear hi)))
        go_ret
        exact ⟨zE4, zB4_0⟩
      replace c7 := Bool.eq_false_iff.mpr c7
      subst c7
      have H1 : (slices_IndexFunc_at_impl_AllHalt_1.l0 k1 l0 (l0.length : Int) (wrap64 (x8_1 + 1))) = some r := by rw [if_neg (show ¬ (false = true) by decide)] at H; exact H
      clear H
      have H := H1
      clear H1
      have H' := Aside0.mk H
      clear H
      have p171 : 0 ≤ (x8_1 : Int) := zA4
      have q171 : x8_1 < (l0.length : Int) := zA4
      obtain ⟨ad171, A171_0, c171_0, e171, hx171_0, hx171_1, hx171_2, hl171_0, hi171_0⟩ := at_T31 HR0.out x8_1 p171 q171
      cases e171
      replace hx171_0 := (HB.out.cell (World.block_lt_of_cell? w _ hx171_0)).trans hx171_0
      replace hx171_1 := (HB.out.cell (World.block_lt_of_cell? w _ hx171_1)).trans hx171_1
      replace hx171_2 := (HB.out.cell (World.block_lt_of_cell? w _ hx171_2)).trans hx171_2
      have HR171_0 := Aside0.mk hi171_0
      have HC171_0 := Aside0.mk hl171_0
      clear hi171_0 hl171_0
      replace p171 := eq_true p171
      replace q171 := eq_true q171
      go_wp2_with (first | (go_at_call 94; (with_reducible refine (impl_AllHalt_1.calls _ _ ((rd_T31 l0 x8_1).f0) ((rd_T31 l0 x8_1).f1) ((rd_T31 l0 x8_1).f2) false _ ?side1 ?side2 A6.out).mono ?_); (case side1 => exact zC4 (Kd.C_below HR171_0.out HB.out)); (case side2 => exact HC171_0.out); rintro e w9 ⟨rfl, hb⟩; have n0_ := Aside0.mk (below_step (zB4_0) hb); clear HB; have HB := n0_; clear n0_; (try clear hb); (try clear hb2); (try clear hk); (try clear hi)))
      go_roundg k1
      case measure => have := HK1.out; omega
      case rel => exact ⟨(wrap64 (x8_1 + 1)), (by first | rfl | (simp; done) | (simp [*]; done)), H', ⟨by have := HK1.out; omega⟩, ⟨zB4_0⟩⟩

/-! ### slices_ContainsFunc_at_impl_AllHalt_1: function 93 -/
def slices_ContainsFunc_at_impl_AllHalt_1.f (k : Nat) (l0 : List (S31)) (a1 : Int) : Option (Bool) := (slices_IndexFunc_at_impl_AllHalt_1.f k l0 0).bind fun t173 => (some (decide (t173 ≥ 0)))
theorem slices_ContainsFunc_at_impl_AllHalt_1.mono : ∀ a0 a1 k, LeO (slices_ContainsFunc_at_impl_AllHalt_1.f k a0 a1) (slices_ContainsFunc_at_impl_AllHalt_1.f (k + 1) a0 a1) := by
  intro a0 a1 k
  unfold slices_ContainsFunc_at_impl_AllHalt_1.f
  repeat' first
      | (with_reducible exact slices_IndexFunc_at_impl_AllHalt_1.mono _ _ _)
      | (with_reducible exact LeO.refl _)
      | (with_reducible exact LeO.none _)
      | (with_reducible refine LeO.ite ?_ ?_)
      | (with_reducible refine LeO.bind ?_ (fun _ => ?_))
      | exact slices_IndexFunc_at_impl_AllHalt_1.mono _ _ _
      | exact LeO.none _
      | refine LeO.ite ?_ ?_
      | refine LeO.bind ?_ (fun _ => ?_)
set_option maxHeartbeats 8000000 in
set_option maxRecDepth 100000 in
theorem slices_ContainsFunc_at_impl_AllHalt_1.calls (k : Nat) (A0 : Option Addr) (c0 : Nat) (l0 : List (S31)) (a1 : Int) (r : Bool) (w : World) (hr0 : Kd.C k31 w A0 l0.length l0) (hc0 : l0.length ≤ c0) (h : slices_ContainsFunc_at_impl_AllHalt_1.f k l0 a1 = some r) :
    Calls Try.prog 93 #[.slice A0 l0.length c0, .func (.func 94) #[] #[]] w fun e w' => e = .returned (.bool r) ∧ Below w.heap.size w w' := by
  have HR0 := Aside0.mk hr0
  have HC0 := Aside0.mk hc0
  clear hr0 hc0
  have HB := Aside0.mk (Below.refl w.heap.size w)
  have H : ((slices_IndexFunc_at_impl_AllHalt_1.f k l0 0).bind fun t173 => (some (decide (t173 ≥ 0)))) = some r := h
  clear h
  replace H := Option.bind_eq_some_iff.mp H
  obtain ⟨t173, A30, H⟩ := H
  replace H : (some (decide (t173 ≥ 0))) = some r := H
  have A3 := Aside0.mk A30
  clear A30
  obtain rfl := Option.some.inj H
  go_enter Try.func93, Try.ntmps93
  go_wp2_with (first | ((with_reducible refine gate_callee (f := 156) rfl ?_); refine goesL_ (some 7) rfl rfl Try.func156 (by kernel_rfl) rfl #[.slice A0 l0.length c0, .func (.func 94) #[] #[]] rfl zT4 ?_; (with_reducible refine (slices_IndexFunc_at_impl_AllHalt_1.calls k _ _ l0 0 t173 _ ?side1 ?side2 A3.out).mono ?_); (case side1 => exact zC4 HR0.out); (case side2 => exact HC0.out); rintro e w4 ⟨rfl, hb⟩; refine ⟨_, rfl, ?_⟩; have n0_ := Aside0.mk (below_step (zB4_0) hb); clear HB; have HB := n0_; clear n0_; (try clear hb); (try clear hb2); (try clear hk); (try clear hi)))
  go_ret
  exact ⟨zE4, zB4_0⟩

/-! ### impl_AllHalt: function 21 -/
def impl_AllHalt.f (k : Nat) (l0 : List (S31)) : Option (Bool) := if (l0.length : Int) > 0 then ((slices_ContainsFunc_at_impl_AllHalt_1.f k l0 0).bind fun t174 => (some (!t174))) else (some false)
theorem impl_AllHalt.mono : ∀ a0 k, LeO (impl_AllHalt.f k a0) (impl_AllHalt.f (k + 1) a0) := by
  intro a0 k
  unfold impl_AllHalt.f
  repeat' first
      | (with_reducible exact slices_ContainsFunc_at_impl_AllHalt_1.mono _ _ _)
      | (with_reducible exact LeO.refl _)
      | (with_reducible exact LeO.none _)
      | (with_reducible refine LeO.ite ?_ ?_)
      | (with_reducible refine LeO.bind ?_ (fun _ => ?_))
      | exact slices_ContainsFunc_at_impl_AllHalt_1.mono _ _ _
      | exact LeO.none _
      | refine LeO.ite ?_ ?_
      | refine LeO.bind ?_ (fun _ => ?_)
set_option maxHeartbeats 8000000 in
set_option maxRecDepth 100000 in
theorem impl_AllHalt.calls (k : Nat) (A0 : Option Addr) (c0 : Nat) (l0 : List (S31)) (r : Bool) (w : World) (hr0 : Kd.C k31 w A0 l0.length l0) (hc0 : l0.length ≤ c0) (h : impl_AllHalt.f k l0 = some r) :
    Calls Try.prog 21 #[.slice A0 l0.length c0] w fun e w' => e = .returned (.bool r) ∧ Below w.heap.size w w' := by
  have HR0 := Aside0.mk hr0
  have HC0 := Aside0.mk hc0
  clear hr0 hc0
  have HB := Aside0.mk (Below.refl w.heap.size w)
  have H : (if (l0.length : Int) > 0 then ((slices_ContainsFunc_at_impl_AllHalt_1.f k l0 0).bind fun t174 => (some (!t174))) else (some false)) = some r := h
  clear h
  by_cases c2 : (l0.length : Int) > 0
  rotate_left
  · rw [if_neg c2] at H
    have c2b0 : decide (0 < (l0.length : Int)) = false := decide_eq_false c2
    have c2b1 : decide (0 < l0.length) = false := decide_eq_false (by omega)
    clear c2
    obtain rfl := Option.some.inj H
    go_enter Try.func21, Try.ntmps21
    go_wp2
    go_ret
    exact ⟨zE4, zB4_0⟩
  rw [if_pos c2] at H
  have c2b0 : decide (0 < (l0.length : Int)) = true := decide_eq_true c2
  have c2b1 : decide (0 < l0.length) = true := decide_eq_true (by omega)
  clear c2
  replace H := Option.bind_eq_some_iff.mp H
  obtain ⟨t174, A30, H⟩ := H
  replace H : (some (!t174)) = some r := H
  have A3 := Aside0.mk A30
  clear A30
  obtain rfl := Option.some.inj H
  go_enter Try.func21, Try.ntmps21
  go_wp2_with (first | (go_at_call 93; (with_reducible refine (slices_ContainsFunc_at_impl_AllHalt_1.calls k _ _ l0 0 t174 _ ?side1 ?side2 A3.out).mono ?_); (case side1 => exact zC4 HR0.out); (case side2 => exact HC0.out); rintro e w4 ⟨rfl, hb⟩; have n0_ := Aside0.mk (below_step (zB4_0) hb); clear HB; have HB := n0_; clear n0_; (try clear hb); (try clear hb2); (try clear hk); (try clear hi)))
  go_ret
  exact ⟨zE4, zB4_0⟩

/-! ### impl_LoseCode: function 22 -/
def impl_LoseCode.f (k : Nat) (a0 : Int) (a1 : Int) (a2 : Int) : Option (List Int × Bool) := (impl_coded.f k a0 a1 a2 (([(⟨1, 0, 0, 0, a1⟩ : S54), (⟨1, 1, 0, 0, 1⟩ : S54), (⟨4, 2, 3, 0, a0⟩ : S54), (⟨2, 2, 2, 1, 0⟩ : S54), (⟨5, 0, 3, 2, a0⟩ : S54), (⟨10, 0, 0, 1, 0⟩ : S54), (⟨7, 0, 0, 0, wrap64 (a2 + 8)⟩ : S54), (⟨8, 0, 0, 0, wrap64 (a2 + 2)⟩ : S54), (⟨9, 0, 0, 0, 0⟩ : S54)] : List (S54)))).bind fun bt178 => (some (bt178.1, bt178.2))
theorem impl_LoseCode.mono : ∀ a0 a1 a2 k, LeO (impl_LoseCode.f k a0 a1 a2) (impl_LoseCode.f (k + 1) a0 a1 a2) := by
  intro a0 a1 a2 k
  unfold impl_LoseCode.f
  repeat' first
      | (with_reducible exact impl_coded.mono _ _ _ _ _)
      | (with_reducible exact LeO.refl _)
      | (with_reducible exact LeO.none _)
      | (with_reducible refine LeO.ite ?_ ?_)
      | (with_reducible refine LeO.bind ?_ (fun _ => ?_))
      | exact impl_coded.mono _ _ _ _ _
      | exact LeO.none _
      | refine LeO.ite ?_ ?_
      | refine LeO.bind ?_ (fun _ => ?_)
set_option maxHeartbeats 8000000 in
set_option maxRecDepth 100000 in
theorem impl_LoseCode.calls (k : Nat) (a0 : Int) (a1 : Int) (a2 : Int) (r1 : List Int) (r2 : Bool) (w : World) (h : impl_LoseCode.f k a0 a1 a2 = some (r1, r2)) :
    Calls Try.prog 22 #[.int .i64 a0, .int .i64 a1, .int .i64 a2] w fun e w' => ∃ v0_ : Value, e = .returned (.tuple #[v0_, .bool r2]) ∧ Kd.R (Kd.int .i64) 3 w' w.heap.size (fun _ => True) v0_ r1 ∧ Below w.heap.size w w' := by
  have hu54 := Try.underlying54
  have HB := Aside0.mk (Below.refl w.heap.size w)
  have H : ((impl_coded.f k a0 a1 a2 (([(⟨1, 0, 0, 0, a1⟩ : S54), (⟨1, 1, 0, 0, 1⟩ : S54), (⟨4, 2, 3, 0, a0⟩ : S54), (⟨2, 2, 2, 1, 0⟩ : S54), (⟨5, 0, 3, 2, a0⟩ : S54), (⟨10, 0, 0, 1, 0⟩ : S54), (⟨7, 0, 0, 0, wrap64 (a2 + 8)⟩ : S54), (⟨8, 0, 0, 0, wrap64 (a2 + 2)⟩ : S54), (⟨9, 0, 0, 0, 0⟩ : S54)] : List (S54)))).bind fun bt178 => (some (bt178.1, bt178.2))) = some (r1, r2) := h
  clear h
  obtain ⟨y175, hy175⟩ : ∃ y_ : List (S54), y_ = (([(⟨1, 0, 0, 0, a1⟩ : S54), (⟨1, 1, 0, 0, 1⟩ : S54), (⟨4, 2, 3, 0, a0⟩ : S54), (⟨2, 2, 2, 1, 0⟩ : S54), (⟨5, 0, 3, 2, a0⟩ : S54), (⟨10, 0, 0, 1, 0⟩ : S54), (⟨7, 0, 0, 0, wrap64 (a2 + 8)⟩ : S54), (⟨8, 0, 0, 0, wrap64 (a2 + 2)⟩ : S54), (⟨9, 0, 0, 0, 0⟩ : S54)] : List (S54))) := ⟨_, rfl⟩
  replace H : ((impl_coded.f k a0 a1 a2 y175).bind fun bt178 => (some (bt178.1, bt178.2))) = some (r1, r2) := by first | (rw [hy175]; with_reducible exact H) | (have H2_ := (Option.bind_some _ _).symm.trans H; rw [hy175]; with_reducible exact H2_) | (have H2_ := (Option.bind_some _ _).symm.trans H; with_reducible exact H2_) | with_reducible exact H | (rw [hy175]; exact H) | exact H
  have Ny175 := Aside0.mk hy175
  clear hy175
  replace H := Option.bind_eq_some_iff.mp H
  obtain ⟨⟨t178, t179⟩, A40, H⟩ := H
  replace H : (some (t178, t179)) = some (r1, r2) := H
  have A4 := Aside0.mk A40
  clear A40
  simp only [Option.some.injEq, Prod.mk.injEq] at H
  obtain ⟨rfl, rfl⟩ := H
  go_enter Try.func22, Try.ntmps22
  go_wp2_with (first | ((with_reducible refine gate_dst (N := 27) rfl ?_); refine Kd.R_lit k54 _ 54 ?hg (N := 27) ?hd (xs := ([(⟨1, 0, 0, 0, a1⟩ : S54), (⟨1, 1, 0, 0, 1⟩ : S54), (⟨4, 2, 3, 0, a0⟩ : S54), (⟨2, 2, 2, 1, 0⟩ : S54), (⟨5, 0, 3, 2, a0⟩ : S54), (⟨10, 0, 0, 1, 0⟩ : S54), (⟨7, 0, 0, 0, wrap64 (a2 + 8)⟩ : S54), (⟨8, 0, 0, 0, wrap64 (a2 + 2)⟩ : S54), (⟨9, 0, 0, 0, 0⟩ : S54)] : List (S54))) (inner := [.int .i64 1, .int .i64 0, .int .i64 0, .int .i64 0, .int .i64 a1, .int .i64 1, .int .i64 1, .int .i64 0, .int .i64 0, .int .i64 1, .int .i64 4, .int .i64 2, .int .i64 3, .int .i64 0, .int .i64 a0, .int .i64 2, .int .i64 2, .int .i64 2, .int .i64 1, .int .i64 0, .int .i64 5, .int .i64 0, .int .i64 3, .int .i64 2, .int .i64 a0, .int .i64 10, .int .i64 0, .int .i64 0, .int .i64 1, .int .i64 0, .int .i64 7, .int .i64 0, .int .i64 0, .int .i64 0, .int .i64 (wrap64 (a2 + 8)), .int .i64 8, .int .i64 0, .int .i64 0, .int .i64 0, .int .i64 (wrap64 (a2 + 2)), .int .i64 9, .int .i64 0, .int .i64 0, .int .i64 0, .int .i64 0]) (ok := fun _ => True) (okp := fun _ => True) ?hr ?hp (fun _ hk => hk) trivial (Below.refl _ _) (Nat.le_refl _) (by simp) ?_; (case hd => rfl); (case hg => rfl); (case hr => first | (go_simp; done) | (go_simp; rfl)); (case hp => exact (Reps.c5 (show Kd.M k54 _ _ _ (⟨1, 0, 0, 0, a1⟩ : S54) [.int .i64 1, .int .i64 0, .int .i64 0, .int .i64 0, .int .i64 a1] from (k54_mkM _ _ _ (⟨1, 0, 0, 0, a1⟩ : S54) )) (Reps.c5 (show Kd.M k54 _ _ _ (⟨1, 1, 0, 0, 1⟩ : S54) [.int .i64 1, .int .i64 1, .int .i64 0, .int .i64 0, .int .i64 1] from (k54_mkM _ _ _ (⟨1, 1, 0, 0, 1⟩ : S54) )) (Reps.c5 (show Kd.M k54 _ _ _ (⟨4, 2, 3, 0, a0⟩ : S54) [.int .i64 4, .int .i64 2, .int .i64 3, .int .i64 0, .int .i64 a0] from (k54_mkM _ _ _ (⟨4, 2, 3, 0, a0⟩ : S54) )) (Reps.c5 (show Kd.M k54 _ _ _ (⟨2, 2, 2, 1, 0⟩ : S54) [.int .i64 2, .int .i64 2, .int .i64 2, .int .i64 1, .int .i64 0] from (k54_mkM _ _ _ (⟨2, 2, 2, 1, 0⟩ : S54) )) (Reps.c5 (show Kd.M k54 _ _ _ (⟨5, 0, 3, 2, a0⟩ : S54) [.int .i64 5, .int .i64 0, .int .i64 3, .int .i64 2, .int .i64 a0] from (k54_mkM _ _ _ (⟨5, 0, 3, 2, a0⟩ : S54) )) (Reps.c5 (show Kd.M k54 _ _ _ (⟨10, 0, 0, 1, 0⟩ : S54) [.int .i64 10, .int .i64 0, .int .i64 0, .int .i64 1, .int .i64 0] from (k54_mkM _ _ _ (⟨10, 0, 0, 1, 0⟩ : S54) )) (Reps.c5 (show Kd.M k54 _ _ _ (⟨7, 0, 0, 0, wrap64 (a2 + 8)⟩ : S54) [.int .i64 7, .int .i64 0, .int .i64 0, .int .i64 0, .int .i64 (wrap64 (a2 + 8))] from (k54_mkM _ _ _ (⟨7, 0, 0, 0, wrap64 (a2 + 8)⟩ : S54) )) (Reps.c5 (show Kd.M k54 _ _ _ (⟨8, 0, 0, 0, wrap64 (a2 + 2)⟩ : S54) [.int .i64 8, .int .i64 0, .int .i64 0, .int .i64 0, .int .i64 (wrap64 (a2 + 2))] from (k54_mkM _ _ _ (⟨8, 0, 0, 0, wrap64 (a2 + 2)⟩ : S54) )) (Reps.c5 (show Kd.M k54 _ _ _ (⟨9, 0, 0, 0, 0⟩ : S54) [.int .i64 9, .int .i64 0, .int .i64 0, .int .i64 0, .int .i64 0] from (k54_mkM _ _ _ (⟨9, 0, 0, 0, 0⟩ : S54) )) (Reps.none _ _))))))))))); intro v176 w5 ho6 hb hg_ hnew_; clear hg_ hnew_; (first | rw [← Ny175.out] at ho6 | (simp only [Int.reduceToNat] at ho6; rw [← Ny175.out] at ho6)); have n0_ := Aside0.mk (Kd.R_lower ho6 (below_size (zB4_0))); have n1_ := Aside0.mk (below_step (zB4_0) hb); clear HB; have HO177 := n0_; have HB := n1_; clear n0_ n1_; clear hb ho6; obtain ⟨Ao7, co7, eo7⟩ := Kd.R_slice HO177.out; subst eo7) | ((with_reducible refine gate_callee (f := 82) rfl ?_); refine goesL_ (some 28) rfl rfl Try.func82 (by kernel_rfl) rfl #[.int .i64 a0, .int .i64 a1, .int .i64 a2, .slice Ao7 y175.length co7] rfl zT4 ?_; (with_reducible refine (impl_coded.calls k a0 a1 a2 _ _ y175 t178 t179 _ ?side1 ?side2 A4.out).mono ?_); (case side1 => repeat (first | exact (Kd.R_reads' HO177.out).2.2 | (with_reducible refine Kd.C_alloc ?_ _) | (with_reducible refine Kd.C_drewN ?_ _) | (with_reducible refine Kd.C_drew ?_))); (case side2 => exact (Kd.R_reads' HO177.out).2.1); rintro e w8 ⟨v180, rfl, ho0, hb⟩; refine ⟨_, rfl, ?_⟩; have n0_ := Aside0.mk (Kd.R_below (zR4 HO177.out) hb); have n1_ := Aside0.mk (Kd.R_lower ho0 (below_size (zB4_0))); have n2_ := Aside0.mk (below_step (zB4_0) hb); clear HO177; clear HB; have HO177 := n0_; have HO181 := n1_; have HB := n2_; clear n0_ n1_ n2_; (try clear hb); (try clear hb2); (try clear hk); (try clear hi); (try clear ho0)))
  go_ret2
  exact ⟨_, zE4, zR4 HO181.out, zB4_0⟩

/-! ### spec_LoseCode: function 23 -/
def spec_LoseCode.f (k : Nat) (a0 : Int) (a1 : Int) (a2 : Int) : Option (List Int × Bool) := (spec_l25Ok.f a0 a1 a2 9).bind fun t182 => (if t182 = true then ((spec_l25Codes.f k (([(⟨1, 0, 0, 0, a1⟩ : S54), (⟨1, 1, 0, 0, 1⟩ : S54), (⟨4, 2, 3, 0, a0⟩ : S54), (⟨2, 2, 2, 1, 0⟩ : S54), (⟨5, 0, 3, 2, a0⟩ : S54), (⟨10, 0, 0, 1, 0⟩ : S54), (⟨7, 0, 0, 0, wrap64 (a2 + 8)⟩ : S54), (⟨8, 0, 0, 0, wrap64 (a2 + 2)⟩ : S54), (⟨9, 0, 0, 0, 0⟩ : S54)] : List (S54)))).bind fun t186 => (some (t186, true))) else (some ((([] : List Int)), false)))
theorem spec_LoseCode.mono : ∀ a0 a1 a2 k, LeO (spec_LoseCode.f k a0 a1 a2) (spec_LoseCode.f (k + 1) a0 a1 a2) := by
  intro a0 a1 a2 k
  unfold spec_LoseCode.f
  repeat' first
      | (with_reducible exact spec_l25Codes.mono _ _)
      | (with_reducible exact LeO.refl _)
      | (with_reducible exact LeO.none _)
      | (with_reducible refine LeO.ite ?_ ?_)
      | (with_reducible refine LeO.bind ?_ (fun _ => ?_))
      | exact spec_l25Codes.mono _ _
      | exact LeO.none _
      | refine LeO.ite ?_ ?_
      | refine LeO.bind ?_ (fun _ => ?_)
set_option maxHeartbeats 8000000 in
set_option maxRecDepth 100000 in
theorem spec_LoseCode.calls (k : Nat) (a0 : Int) (a1 : Int) (a2 : Int) (r1 : List Int) (r2 : Bool) (w : World) (h : spec_LoseCode.f k a0 a1 a2 = some (r1, r2)) :
    Calls Try.prog 23 #[.int .i64 a0, .int .i64 a1, .int .i64 a2] w fun e w' => ∃ v0_ : Value, e = .returned (.tuple #[v0_, .bool r2]) ∧ Kd.R (Kd.int .i64) 3 w' w.heap.size (fun _ => True) v0_ r1 ∧ Below w.heap.size w w' := by
  have hu54 := Try.underlying54
  have HB := Aside0.mk (Below.refl w.heap.size w)
  have H : ((spec_l25Ok.f a0 a1 a2 9).bind fun t182 => (if t182 = true then ((spec_l25Codes.f k (([(⟨1, 0, 0, 0, a1⟩ : S54), (⟨1, 1, 0, 0, 1⟩ : S54), (⟨4, 2, 3, 0, a0⟩ : S54), (⟨2, 2, 2, 1, 0⟩ : S54), (⟨5, 0, 3, 2, a0⟩ : S54), (⟨10, 0, 0, 1, 0⟩ : S54), (⟨7, 0, 0, 0, wrap64 (a2 + 8)⟩ : S54), (⟨8, 0, 0, 0, wrap64 (a2 + 2)⟩ : S54), (⟨9, 0, 0, 0, 0⟩ : S54)] : List (S54)))).bind fun t186 => (some (t186, true))) else (some ((([] : List Int)), false)))) = some (r1, r2) := h
  clear h
  replace H := Option.bind_eq_some_iff.mp H
  obtain ⟨t182, A40, H⟩ := H
  replace H : (if t182 = true then ((spec_l25Codes.f k (([(⟨1, 0, 0, 0, a1⟩ : S54), (⟨1, 1, 0, 0, 1⟩ : S54), (⟨4, 2, 3, 0, a0⟩ : S54), (⟨2, 2, 2, 1, 0⟩ : S54), (⟨5, 0, 3, 2, a0⟩ : S54), (⟨10, 0, 0, 1, 0⟩ : S54), (⟨7, 0, 0, 0, wrap64 (a2 + 8)⟩ : S54), (⟨8, 0, 0, 0, wrap64 (a2 + 2)⟩ : S54), (⟨9, 0, 0, 0, 0⟩ : S54)] : List (S54)))).bind fun t186 => (some (t186, true))) else (some ((([] : List Int)), false))) = some (r1, r2) := H
  have A4 := Aside0.mk A40
  clear A40
  by_cases c5 : t182 = true
  rotate_left
  · replace c5 := Bool.eq_false_iff.mpr c5
    subst c5
    have H1 : (some ((([] : List Int)), false)) = some (r1, r2) := by rw [if_neg (show ¬ (false = true) by decide)] at H; exact H
    clear H
    have H := H1
    clear H1
    obtain ⟨y189, hy189⟩ : ∃ y_ : List Int, y_ = (([] : List Int)) := ⟨_, rfl⟩
    replace H : (some (y189, false)) = some (r1, r2) := by first | (rw [hy189]; with_reducible exact H) | (have H2_ := (Option.bind_some _ _).symm.trans H; rw [hy189]; with_reducible exact H2_) | (have H2_ := (Option.bind_some _ _).symm.trans H; with_reducible exact H2_) | with_reducible exact H | (rw [hy189]; exact H) | exact H
    have Ny189 := Aside0.mk hy189
    clear hy189
    simp only [Option.some.injEq, Prod.mk.injEq] at H
    obtain ⟨rfl, rfl⟩ := H
    go_enter Try.func23, Try.ntmps23
    go_wp2_with (first | ((with_reducible refine gate_callee (f := 83) rfl ?_); refine goesL_ (some 11) rfl rfl Try.func83 (by kernel_rfl) rfl #[.int .i64 a0, .int .i64 a1, .int .i64 a2, .int .i64 9] rfl zT4 ?_; (with_reducible refine (spec_l25Ok.calls a0 a1 a2 9 false _ A4.out).mono ?_); rintro e w' ⟨rfl, ⟨nd, rfl⟩⟩; refine ⟨_, rfl, ?_⟩) | ((with_reducible refine gate_dst (N := 13) rfl ?_); refine Kd.R_lit (Kd.int .i64) _ 3 ?hg (N := 13) ?hd (xs := ([] : List Int)) (inner := []) (ok := fun _ => True) (okp := fun _ => True) ?hr ?hp (fun _ hk => hk) trivial (Below.refl _ _) (Nat.le_refl _) (by simp) ?_; (case hd => rfl); (case hg => rfl); (case hr => first | (go_simp; done) | (go_simp; rfl)); (case hp => exact (Reps.none _ _)); intro v190 w11 ho12 hb hg_ hnew_; clear hg_ hnew_; (first | rw [← Ny189.out] at ho12 | (simp only [Int.reduceToNat] at ho12; rw [← Ny189.out] at ho12)); have n0_ := Aside0.mk (Kd.R_lower ho12 (below_size (zB4_0))); have n1_ := Aside0.mk (below_step (zB4_0) hb); clear HB; have HO191 := n0_; have HB := n1_; clear n0_ n1_; clear hb ho12))
    go_ret2
    exact ⟨_, zE4, zR4 HO191.out, zB4_0⟩
  subst c5
  have H1 : ((spec_l25Codes.f k (([(⟨1, 0, 0, 0, a1⟩ : S54), (⟨1, 1, 0, 0, 1⟩ : S54), (⟨4, 2, 3, 0, a0⟩ : S54), (⟨2, 2, 2, 1, 0⟩ : S54), (⟨5, 0, 3, 2, a0⟩ : S54), (⟨10, 0, 0, 1, 0⟩ : S54), (⟨7, 0, 0, 0, wrap64 (a2 + 8)⟩ : S54), (⟨8, 0, 0, 0, wrap64 (a2 + 2)⟩ : S54), (⟨9, 0, 0, 0, 0⟩ : S54)] : List (S54)))).bind fun t186 => (some (t186, true))) = some (r1, r2) := by rw [if_pos rfl] at H; exact H
  clear H
  have H := H1
  clear H1
  obtain ⟨y183, hy183⟩ : ∃ y_ : List (S54), y_ = (([(⟨1, 0, 0, 0, a1⟩ : S54), (⟨1, 1, 0, 0, 1⟩ : S54), (⟨4, 2, 3, 0, a0⟩ : S54), (⟨2, 2, 2, 1, 0⟩ : S54), (⟨5, 0, 3, 2, a0⟩ : S54), (⟨10, 0, 0, 1, 0⟩ : S54), (⟨7, 0, 0, 0, wrap64 (a2 + 8)⟩ : S54), (⟨8, 0, 0, 0, wrap64 (a2 + 2)⟩ : S54), (⟨9, 0, 0, 0, 0⟩ : S54)] : List (S54))) := ⟨_, rfl⟩
  replace H : ((spec_l25Codes.f k y183).bind fun t186 => (some (t186, true))) = some (r1, r2) := by first | (rw [hy183]; with_reducible exact H) | (have H2_ := (Option.bind_some _ _).symm.trans H; rw [hy183]; with_reducible exact H2_) | (have H2_ := (Option.bind_some _ _).symm.trans H; with_reducible exact H2_) | with_reducible exact H | (rw [hy183]; exact H) | exact H
  have Ny183 := Aside0.mk hy183
  clear hy183
  replace H := Option.bind_eq_some_iff.mp H
  obtain ⟨t186, A60, H⟩ := H
  replace H : (some (t186, true)) = some (r1, r2) := H
  have A6 := Aside0.mk A60
  clear A60
  simp only [Option.some.injEq, Prod.mk.injEq] at H
  obtain ⟨rfl, rfl⟩ := H
  go_enter Try.func23, Try.ntmps23
  go_wp2_with (first | ((with_reducible refine gate_callee (f := 83) rfl ?_); refine goesL_ (some 11) rfl rfl Try.func83 (by kernel_rfl) rfl #[.int .i64 a0, .int .i64 a1, .int .i64 a2, .int .i64 9] rfl zT4 ?_; (with_reducible refine (spec_l25Ok.calls a0 a1 a2 9 true _ A4.out).mono ?_); rintro e w' ⟨rfl, ⟨nd, rfl⟩⟩; refine ⟨_, rfl, ?_⟩) | ((with_reducible refine gate_dst (N := 30) rfl ?_); refine Kd.R_lit k54 _ 54 ?hg (N := 30) ?hd (xs := ([(⟨1, 0, 0, 0, a1⟩ : S54), (⟨1, 1, 0, 0, 1⟩ : S54), (⟨4, 2, 3, 0, a0⟩ : S54), (⟨2, 2, 2, 1, 0⟩ : S54), (⟨5, 0, 3, 2, a0⟩ : S54), (⟨10, 0, 0, 1, 0⟩ : S54), (⟨7, 0, 0, 0, wrap64 (a2 + 8)⟩ : S54), (⟨8, 0, 0, 0, wrap64 (a2 + 2)⟩ : S54), (⟨9, 0, 0, 0, 0⟩ : S54)] : List (S54))) (inner := [.int .i64 1, .int .i64 0, .int .i64 0, .int .i64 0, .int .i64 a1, .int .i64 1, .int .i64 1, .int .i64 0, .int .i64 0, .int .i64 1, .int .i64 4, .int .i64 2, .int .i64 3, .int .i64 0, .int .i64 a0, .int .i64 2, .int .i64 2, .int .i64 2, .int .i64 1, .int .i64 0, .int .i64 5, .int .i64 0, .int .i64 3, .int .i64 2, .int .i64 a0, .int .i64 10, .int .i64 0, .int .i64 0, .int .i64 1, .int .i64 0, .int .i64 7, .int .i64 0, .int .i64 0, .int .i64 0, .int .i64 (wrap64 (a2 + 8)), .int .i64 8, .int .i64 0, .int .i64 0, .int .i64 0, .int .i64 (wrap64 (a2 + 2)), .int .i64 9, .int .i64 0, .int .i64 0, .int .i64 0, .int .i64 0]) (ok := fun _ => True) (okp := fun _ => True) ?hr ?hp (fun _ hk => hk) trivial (Below.refl _ _) (Nat.le_refl _) (by simp) ?_; (case hd => rfl); (case hg => rfl); (case hr => first | (go_simp; done) | (go_simp; rfl)); (case hp => exact (Reps.c5 (show Kd.M k54 _ _ _ (⟨1, 0, 0, 0, a1⟩ : S54) [.int .i64 1, .int .i64 0, .int .i64 0, .int .i64 0, .int .i64 a1] from (k54_mkM _ _ _ (⟨1, 0, 0, 0, a1⟩ : S54) )) (Reps.c5 (show Kd.M k54 _ _ _ (⟨1, 1, 0, 0, 1⟩ : S54) [.int .i64 1, .int .i64 1, .int .i64 0, .int .i64 0, .int .i64 1] from (k54_mkM _ _ _ (⟨1, 1, 0, 0, 1⟩ : S54) )) (Reps.c5 (show Kd.M k54 _ _ _ (⟨4, 2, 3, 0, a0⟩ : S54) [.int .i64 4, .int .i64 2, .int .i64 3, .int .i64 0, .int .i64 a0] from (k54_mkM _ _ _ (⟨4, 2, 3, 0, a0⟩ : S54) )) (Reps.c5 (show Kd.M k54 _ _ _ (⟨2, 2, 2, 1, 0⟩ : S54) [.int .i64 2, .int .i64 2, .int .i64 2, .int .i64 1, .int .i64 0] from (k54_mkM _ _ _ (⟨2, 2, 2, 1, 0⟩ : S54) )) (Reps.c5 (show Kd.M k54 _ _ _ (⟨5, 0, 3, 2, a0⟩ : S54) [.int .i64 5, .int .i64 0, .int .i64 3, .int .i64 2, .int .i64 a0] from (k54_mkM _ _ _ (⟨5, 0, 3, 2, a0⟩ : S54) )) (Reps.c5 (show Kd.M k54 _ _ _ (⟨10, 0, 0, 1, 0⟩ : S54) [.int .i64 10, .int .i64 0, .int .i64 0, .int .i64 1, .int .i64 0] from (k54_mkM _ _ _ (⟨10, 0, 0, 1, 0⟩ : S54) )) (Reps.c5 (show Kd.M k54 _ _ _ (⟨7, 0, 0, 0, wrap64 (a2 + 8)⟩ : S54) [.int .i64 7, .int .i64 0, .int .i64 0, .int .i64 0, .int .i64 (wrap64 (a2 + 8))] from (k54_mkM _ _ _ (⟨7, 0, 0, 0, wrap64 (a2 + 8)⟩ : S54) )) (Reps.c5 (show Kd.M k54 _ _ _ (⟨8, 0, 0, 0, wrap64 (a2 + 2)⟩ : S54) [.int .i64 8, .int .i64 0, .int .i64 0, .int .i64 0, .int .i64 (wrap64 (a2 + 2))] from (k54_mkM _ _ _ (⟨8, 0, 0, 0, wrap64 (a2 + 2)⟩ : S54) )) (Reps.c5 (show Kd.M k54 _ _ _ (⟨9, 0, 0, 0, 0⟩ : S54) [.int .i64 9, .int .i64 0, .int .i64 0, .int .i64 0, .int .i64 0] from (k54_mkM _ _ _ (⟨9, 0, 0, 0, 0⟩ : S54) )) (Reps.none _ _))))))))))); intro v184 w7 ho8 hb hg_ hnew_; clear hg_ hnew_; (first | rw [← Ny183.out] at ho8 | (simp only [Int.reduceToNat] at ho8; rw [← Ny183.out] at ho8)); have n0_ := Aside0.mk (Kd.R_lower ho8 (below_size (zB4_0))); have n1_ := Aside0.mk (below_step (zB4_0) hb); clear HB; have HO185 := n0_; have HB := n1_; clear n0_ n1_; clear hb ho8; obtain ⟨Ao9, co9, eo9⟩ := Kd.R_slice HO185.out; subst eo9) | ((with_reducible refine gate_callee (f := 84) rfl ?_); refine goesL_ (some 31) rfl rfl Try.func84 (by kernel_rfl) rfl #[.slice Ao9 y183.length co9] rfl zT4 ?_; (with_reducible refine (spec_l25Codes.calls k _ _ y183 t186 _ ?side1 ?side2 A6.out).mono ?_); (case side1 => repeat (first | exact (Kd.R_reads' HO185.out).2.2 | (with_reducible refine Kd.C_alloc ?_ _) | (with_reducible refine Kd.C_drewN ?_ _) | (with_reducible refine Kd.C_drew ?_))); (case side2 => exact (Kd.R_reads' HO185.out).2.1); rintro e w10 ⟨v187, rfl, ho0, hb⟩; refine ⟨_, rfl, ?_⟩; have n0_ := Aside0.mk (Kd.R_below (zR4 HO185.out) hb); have n1_ := Aside0.mk (Kd.R_lower ho0 (below_size (zB4_0))); have n2_ := Aside0.mk (below_step (zB4_0) hb); clear HO185; clear HB; have HO185 := n0_; have HO188 := n1_; have HB := n2_; clear n0_ n1_ n2_; (try clear hb); (try clear hb2); (try clear hk); (try clear hi); (try clear ho0)))
  go_ret2
  exact ⟨_, zE4, zR4 HO188.out, zB4_0⟩

/-! ### laws_sameInts: function 36 -/
def laws_sameInts.l0 : Nat → List Int → List Int → Int → Option (Bool)
  | 0, _, _, _ => none
  | k + 1, x0, x1, x5 => if x5 < (x0.length : Int) then (if 0 ≤ x5 then (if x5 < (x1.length : Int) then (if (rd x0 x5) = (rd x1 x5) then (laws_sameInts.l0 k x0 x1 (wrap64 (x5 + 1))) else (some false)) else (none)) else (none)) else (some true)
def laws_sameInts.f (k : Nat) (l0 : List Int) (l1 : List Int) : Option (Bool) := if (l0.length : Int) = (l1.length : Int) then (laws_sameInts.l0 k l0 l1 0) else (some false)
theorem laws_sameInts.mono_l : ∀ k, (∀ y0 y1 y2, LeO (laws_sameInts.l0 k y0 y1 y2) (laws_sameInts.l0 (k + 1) y0 y1 y2))
  | 0 => fun _ _ _ r h => by simp [laws_sameInts.l0] at h
  | k + 1 => by
    have ih0 := laws_sameInts.mono_l k
    · intro y0 y1 y2
      unfold laws_sameInts.l0
      repeat' first
      | (with_reducible exact ih0 _ _ _)
      | (with_reducible exact LeO.refl _)
      | (with_reducible exact LeO.none _)
      | (with_reducible refine LeO.ite ?_ ?_)
      | (with_reducible refine LeO.bind ?_ (fun _ => ?_))
      | exact ih0 _ _ _
      | exact LeO.none _
      | refine LeO.ite ?_ ?_
      | refine LeO.bind ?_ (fun _ => ?_)
theorem laws_sameInts.mono : ∀ a0 a1 k, LeO (laws_sameInts.f k a0 a1) (laws_sameInts.f (k + 1) a0 a1) := by
  intro a0 a1 k
  have ih0 := laws_sameInts.mono_l k
  unfold laws_sameInts.f
  repeat' first
      | (with_reducible exact ih0 _ _ _)
      | (with_reducible exact LeO.refl _)
      | (with_reducible exact LeO.none _)
      | (with_reducible refine LeO.ite ?_ ?_)
      | (with_reducible refine LeO.bind ?_ (fun _ => ?_))
      | exact ih0 _ _ _
      | exact LeO.none _
      | refine LeO.ite ?_ ?_
      | refine LeO.bind ?_ (fun _ => ?_)
set_option maxHeartbeats 8000000 in
set_option maxRecDepth 100000 in
theorem laws_sameInts.calls (k : Nat) (A0 : Option Addr) (c0 : Nat) (l0 : List Int) (A1 : Option Addr) (c1 : Nat) (l1 : List Int) (r : Bool) (w : World) (hr0 : Kd.C (Kd.int .i64) w A0 l0.length l0) (hc0 : l0.length ≤ c0) (hr1 : Kd.C (Kd.int .i64) w A1 l1.length l1) (hc1 : l1.length ≤ c1) (h : laws_sameInts.f k l0 l1 = some r) :
    Calls Try.prog 36 #[.slice A0 l0.length c0, .slice A1 l1.length c1] w fun e w' => e = .returned (.bool r) ∧ Drawn0 w w' := by
  have HR0 := Aside0.mk hr0
  have HC0 := Aside0.mk hc0
  clear hr0 hc0
  have HR1 := Aside0.mk hr1
  have HC1 := Aside0.mk hc1
  clear hr1 hc1
  have H : (if (l0.length : Int) = (l1.length : Int) then (laws_sameInts.l0 k l0 l1 0) else (some false)) = some r := h
  clear h
  by_cases c3 : (l0.length : Int) = (l1.length : Int)
  rotate_left
  · rw [if_neg c3] at H
    have c3b0 : ((l0.length : Int) == (l1.length : Int)) = false := beq_eq_false_iff_ne.mpr c3
    have c3b1 : ((l0.length : Int) != (l1.length : Int)) = true := bne_iff_ne.mpr c3
    have c3b2 : (l0.length == l1.length) = false := by first | simpa using c3 | (simp at c3 ⊢; omega)
    obtain rfl := Option.some.inj H
    go_enter Try.func36, Try.ntmps36
    go_wp2
    repeat (go_quiet (fail); try go_wp2)
    go_ret
    exact ⟨by first | rfl | (simp; done) | (simp [*]; done), by repeat (first | exact Drawn0.refl _ | apply Drawn0.step)⟩
  rw [if_pos c3] at H
  have c3b0 : ((l0.length : Int) == (l1.length : Int)) = true := beq_iff_eq.mpr c3
  have c3b1 : ((l0.length : Int) != (l1.length : Int)) = false := bne_eq_false_iff_eq.mpr c3
  have c3b2 : (l0.length == l1.length) = true := by first | simpa using c3 | (simp at c3 ⊢; omega)
  clear c3
  have H' := Aside0.mk H
  clear H
  go_enter Try.func36, Try.ntmps36
  go_wp2
  repeat (go_quiet (fail); try go_wp2)
  go_loopg [5] k (fun kq v5 w' => ∃ (x5_1 : Int), v5 = .int .i64 x5_1 ∧ Aside0 (laws_sameInts.l0 kq l0 l1 x5_1 = some r) ∧ Aside0 (kq ≤ k) ∧ Drawn0 w w')
  case atStart => exact ⟨(0), (by first | rfl | (simp; done) | (simp [*]; done)), H', ⟨Nat.le_refl _⟩, by repeat (first | exact Drawn0.refl _ | apply Drawn0.step)⟩
  case round =>
    clear H'
    try clear c1
    try clear p2
    try clear c3
    try clear c3b0
    try clear c3b1
    try clear c3b2
    obtain ⟨x5_1, rfl, HA, HK1, ⟨m1, rfl⟩⟩ := hrel
    cases gk with
    | zero => exact absurd HA.out (by simp [laws_sameInts.l0])
    | succ k1 =>
      have H := HA.out
      clear HA
      simp only [laws_sameInts.l0] at H
      by_cases c4 : x5_1 < (l0.length : Int)
      rotate_left
      · rw [if_neg c4] at H
        have c4b0 : decide (x5_1 < (l0.length : Int)) = false := decide_eq_false c4
        clear c4
        obtain rfl := Option.some.inj H
        go_wp2
        repeat (go_quiet (fail); try go_wp2)
        go_ret
        exact ⟨by first | rfl | (simp; done) | (simp [*]; done), by repeat (first | exact Drawn0.refl _ | apply Drawn0.step)⟩
      rw [if_pos c4] at H
      have c4b0 : decide (x5_1 < (l0.length : Int)) = true := decide_eq_true c4
      clear c4
      by_cases c5 : 0 ≤ x5_1
      rotate_left
      · rw [if_neg c5] at H
        exact absurd H (by simp)
      rw [if_pos c5] at H
      have c5b0 : decide (0 ≤ x5_1) = true := decide_eq_true c5
      clear c5
      by_cases c6 : x5_1 < (l1.length : Int)
      rotate_left
      · rw [if_neg c6] at H
        exact absurd H (by simp)
      rw [if_pos c6] at H
      have c6b0 : decide (x5_1 < (l1.length : Int)) = true := decide_eq_true c6
      clear c6
      by_cases c7 : (rd l0 x5_1) = (rd l1 x5_1)
      rotate_left
      · rw [if_neg c7] at H
        have c7b0 : ((rd l0 x5_1) == (rd l1 x5_1)) = false := beq_eq_false_iff_ne.mpr c7
        have c7b1 : ((rd l0 x5_1) != (rd l1 x5_1)) = true := bne_iff_ne.mpr c7
        obtain rfl := Option.some.inj H
        have p192 : 0 ≤ (x5_1 : Int) := zA4
        have q192 : x5_1 < (l0.length : Int) := zA4
        obtain ⟨ad192, e192, hx192_0⟩ := Kd.at_int HR0.out x5_1 p192 q192
        cases e192
        replace p192 := eq_true p192
        replace q192 := eq_true q192
        have p193 : 0 ≤ (x5_1 : Int) := zA4
        have q193 : x5_1 < (l1.length : Int) := zA4
        obtain ⟨ad193, e193, hx193_0⟩ := Kd.at_int HR1.out x5_1 p193 q193
        cases e193
        replace p193 := eq_true p193
        replace q193 := eq_true q193
        go_wp2
        repeat (go_quiet (fail); try go_wp2)
        go_ret
        exact ⟨by first | rfl | (simp; done) | (simp [*]; done), by repeat (first | exact Drawn0.refl _ | apply Drawn0.step)⟩
      rw [if_pos c7] at H
      have c7b0 : ((rd l0 x5_1) == (rd l1 x5_1)) = true := beq_iff_eq.mpr c7
      have c7b1 : ((rd l0 x5_1) != (rd l1 x5_1)) = false := bne_eq_false_iff_eq.mpr c7
      clear c7
      have H' := Aside0.mk H
      clear H
      have p192 : 0 ≤ (x5_1 : Int) := zA4
      have q192 : x5_1 < (l0.length : Int) := zA4
      obtain ⟨ad192, e192, hx192_0⟩ := Kd.at_int HR0.out x5_1 p192 q192
      cases e192
      replace p192 := eq_true p192
      replace q192 := eq_true q192
      have p193 : 0 ≤ (x5_1 : Int) := zA4
      have q193 : x5_1 < (l1.length : Int) := zA4
      obtain ⟨ad193, e193, hx193_0⟩ := Kd.at_int HR1.out x5_1 p193 q193
      cases e193
      replace p193 := eq_true p193
      replace q193 := eq_true q193
      go_wp2
      repeat (go_quiet (fail); try go_wp2)
      go_roundg k1
      case measure => have := HK1.out; omega
      case rel => exact ⟨(wrap64 (x5_1 + 1)), (by first | rfl | (simp; done) | (simp [*]; done)), H', ⟨by have := HK1.out; omega⟩, by repeat (first | exact Drawn0.refl _ | apply Drawn0.step)⟩

/-- A state of type 174 at block g of W; what its slices lead to came in by w0. -/
def IsS174 (w0 W : World) (g : Nat) (f0 : List Int) (f1 : Int) (f2 : Int) : Prop := ∃ A0 c0, W.heap[g]? = some (.cells #[.slice A0 f0.length c0, .int .i64 f1, .int .i64 f2] 174 (0, 0)) ∧ w0.heap.size ≤ g ∧ Kd.C (Kd.int .u8) w0 A0 f0.length f0
theorem IsS174.grown {w0 W : World} {g : Nat} {f0 : List Int} {f1 : Int} {f2 : Int} {W1 : World} {row : Option Nat} (h : IsS174 w0 W g f0 f1 f2) (hw : W.grownBy W1 row) (hne : some g ≠ row) : IsS174 w0 W1 g f0 f1 f2 := by
  obtain ⟨A0, c0, hb, hg, hr0⟩ := h
  exact ⟨A0, c0, blk_grown hb hw hne, hg, hr0⟩
theorem IsS174.own_neN {w0 W : World} {g : Nat} {f0 : List Int} {f1 : Int} {f2 : Int} {α : Type} {d : Kd α} {e : Nat} {base : Nat} {ok : Nat → Prop} {v : Value} {xs : List α} (h : IsS174 w0 W g f0 f1 f2) (ho : Kd.N d e W base ok v xs) (ht : e ≠ 174) : some g ≠ v.ownBlock := by
  obtain ⟨A0, c0, hb, hg, hr0⟩ := h
  exact Kd.N_ne ho hb ht
theorem IsS174.fresh {w0 W : World} {g : Nat} {f0 : List Int} {f1 : Int} {f2 : Int} (h : IsS174 w0 W g f0 f1 f2) : ∀ k, W.heap.size ≤ k → k ≠ g := by
  obtain ⟨A0, c0, hb, hg, hr0⟩ := h
  exact Kd.freshB hb
theorem IsS174.kept {w0 W : World} {g : Nat} {f0 : List Int} {f1 : Int} {f2 : Int} {W1 : World} {S : Nat → Prop} (h : IsS174 w0 W g f0 f1 f2) (hk : Kept W W1 S) (hne : ¬ S g) : IsS174 w0 W1 g f0 f1 f2 := by
  obtain ⟨A0, c0, hb, hg, hr0⟩ := h
  exact ⟨A0, c0, blk_kept hb hk hne, hg, hr0⟩
theorem IsS174.below {w0 W : World} {g : Nat} {f0 : List Int} {f1 : Int} {f2 : Int} {W1 : World} (h : IsS174 w0 W g f0 f1 f2) (hw : Below W.heap.size W W1) : IsS174 w0 W1 g f0 f1 f2 := h.grown (grown_of_below hw none) (by simp)
theorem IsS174.alloc {w0 W : World} {g : Nat} {f0 : List Int} {f1 : Int} {f2 : Int} (h : IsS174 w0 W g f0 f1 f2) (o : Obj) : IsS174 w0 (W.alloc o) g f0 f1 f2 := h.below (below_alloc (Below.refl _ _) o)
theorem IsS174.drewN {w0 W : World} {g : Nat} {f0 : List Int} {f1 : Int} {f2 : Int} (h : IsS174 w0 W g f0 f1 f2) (m : Nat) : IsS174 w0 (W.drewN m) g f0 f1 f2 := h
theorem IsS174.drew {w0 W : World} {g : Nat} {f0 : List Int} {f1 : Int} {f2 : Int} (h : IsS174 w0 W g f0 f1 f2) : IsS174 w0 W.drew g f0 f1 f2 := h
theorem IsS174.at_ {w0 W : World} {g : Nat} {f0 : List Int} {f1 : Int} {f2 : Int} {w' : World} {m : Nat} (hq : W.drewN m = w') (h : IsS174 w0 W g f0 f1 f2) : IsS174 w0 w' g f0 f1 f2 := by subst hq; exact IsS174.drewN h m
theorem IsS174.apart {w0 W : World} {g : Nat} {f0 : List Int} {f1 : Int} {f2 : Int} {α : Type} {d : Kd α} {e : Nat} {base : Nat} {ok : Nat → Prop} {v : Value} {xs : List α} (h : IsS174 w0 W g f0 f1 f2) (ho : d.R e W base ok v xs) (ht : ∀ q, q ∈ e :: d.E → q ≠ 174) : d.R e W base (fun k => ok k ∧ k ≠ g) v xs := by
  obtain ⟨A0, c0, hb, hg, hr0⟩ := h
  exact Kd.R_types ho hb ht
theorem IsS174.own_ne {w0 W : World} {g : Nat} {f0 : List Int} {f1 : Int} {f2 : Int} {α : Type} {d : Kd α} {e : Nat} {base : Nat} {ok : Nat → Prop} {v : Value} {xs : List α} (h : IsS174 w0 W g f0 f1 f2) (ho : d.R e W base ok v xs) (ht : e ≠ 174) : some g ≠ v.ownBlock := by
  obtain ⟨A0, c0, hb, hg, hr0⟩ := h
  exact Kd.R_ne ho hb ht
theorem IsS174.apartQ {w0 W : World} {g : Nat} {f0 : List Int} {f1 : Int} {f2 : Int} {α : Type} {d : Kd α} {e : Nat} {base : Nat} {ok : Nat → Prop} {v : Value} {xs : List α} (h : IsS174 w0 W g f0 f1 f2) (ho : d.Q e W base ok v xs) (ht : ∀ q, q ∈ e :: d.E → q ≠ 174) : d.Q e W base (fun k => ok k ∧ k ≠ g) v xs := by
  obtain ⟨A0, c0, hb, hg, hr0⟩ := h
  exact Kd.Q_types ho hb ht
theorem IsS174.own_neQ {w0 W : World} {g : Nat} {f0 : List Int} {f1 : Int} {f2 : Int} {α : Type} {d : Kd α} {e : Nat} {base : Nat} {ok : Nat → Prop} {v : Value} {xs : List α} (h : IsS174 w0 W g f0 f1 f2) (ho : d.Q e W base ok v xs) (ht : e ≠ 174) : some g ≠ v.ownBlock := by
  obtain ⟨A0, c0, hb, hg, hr0⟩ := h
  exact Kd.Q_ne ho hb ht
theorem IsS174.apartS {w0 W : World} {g : Nat} {f0 : List Int} {f1 : Int} {f2 : Int} {α : Type} {d : Kd α} {e : Nat} {base : Nat} {ok : Nat → Prop} {v : Value} {xs : List α} (h : IsS174 w0 W g f0 f1 f2) (ho : d.S e W base ok v xs) (ht : ∀ q, q ∈ e :: d.E → q ≠ 174) : d.S e W base (fun k => ok k ∧ k ≠ g) v xs := by
  obtain ⟨A0, c0, hb, hg, hr0⟩ := h
  exact Kd.S_types ho hb ht
theorem IsS174.own_neS {w0 W : World} {g : Nat} {f0 : List Int} {f1 : Int} {f2 : Int} {α : Type} {d : Kd α} {e : Nat} {base : Nat} {ok : Nat → Prop} {v : Value} {xs : List α} (h : IsS174 w0 W g f0 f1 f2) (ho : d.S e W base ok v xs) (ht : e ≠ 174) : some g ≠ v.ownBlock := by
  obtain ⟨A0, c0, hb, hg, hr0⟩ := h
  exact Kd.S_ne ho hb ht
theorem IsS174.lt {w0 W : World} {g : Nat} {f0 : List Int} {f1 : Int} {f2 : Int} (h : IsS174 w0 W g f0 f1 f2) : g < W.heap.size := by
  obtain ⟨A0, c0, hb, hg, hr0⟩ := h
  exact blk_lt hb
theorem IsS174.ge {w0 W : World} {g : Nat} {f0 : List Int} {f1 : Int} {f2 : Int} (h : IsS174 w0 W g f0 f1 f2) : w0.heap.size ≤ g := by
  obtain ⟨A0, c0, hb, hg, hr0⟩ := h
  exact hg
theorem IsS174.ne_blk {w0 W : World} {g : Nat} {f0 : List Int} {f1 : Int} {f2 : Int} {a : Nat} {cs : Array Value} {t : TypeId} {fr : Nat × Nat} (h : IsS174 w0 W g f0 f1 f2) (hb2 : W.heap[a]? = some (.cells cs t fr)) (ht : t ≠ 174) : g ≠ a := by
  obtain ⟨A0, c0, hb, hg, hr0⟩ := h
  rintro rfl
  rw [hb] at hb2
  injection hb2 with hb2
  injection hb2 with _ ht2
  exact ht ht2.symm
theorem IsS174.far {w0 W : World} {g : Nat} {f0 : List Int} {f1 : Int} {f2 : Int} {p : Addr} (h : IsS174 w0 W g f0 f1 f2) (hne : g ≠ p.block) (u : Value) : IsS174 w0 (W.setCell p u) g f0 f1 f2 := by
  obtain ⟨A0, c0, hb, hg, hr0⟩ := h
  exact ⟨A0, c0, blk_far hb hne u, hg, hr0⟩
theorem cellS174_0 {W : World} {g : Nat} {A0 : Option Addr} {c0 : Nat} {f0 : List Int} {f1 : Int} {f2 : Int} (h : W.heap[g]? = some (.cells #[.slice A0 f0.length c0, .int .i64 f1, .int .i64 f2] 174 (0, 0))) : W.cell? ⟨g, 0, none⟩ = some (.slice A0 f0.length c0) := (blk_cell h 0).trans rfl
theorem cellS174_1 {W : World} {g : Nat} {A0 : Option Addr} {c0 : Nat} {f0 : List Int} {f1 : Int} {f2 : Int} (h : W.heap[g]? = some (.cells #[.slice A0 f0.length c0, .int .i64 f1, .int .i64 f2] 174 (0, 0))) : W.cell? ⟨g, 1, none⟩ = some (.int .i64 f1) := (blk_cell h 1).trans rfl
theorem IsS174.set_1 {w0 W : World} {g : Nat} {f0 : List Int} {f1 : Int} {f2 : Int} (h : IsS174 w0 W g f0 f1 f2) (x : Int) : IsS174 w0 (W.setCell ⟨g, 1, none⟩ (.int .i64 x)) g f0 x f2 := by
  obtain ⟨A0, c0, hb, hg, hr0⟩ := h
  exact ⟨A0, c0, by simpa using blk_set hb 1 (.int .i64 x), hg, hr0⟩
theorem cellS174_2 {W : World} {g : Nat} {A0 : Option Addr} {c0 : Nat} {f0 : List Int} {f1 : Int} {f2 : Int} (h : W.heap[g]? = some (.cells #[.slice A0 f0.length c0, .int .i64 f1, .int .i64 f2] 174 (0, 0))) : W.cell? ⟨g, 2, none⟩ = some (.int .i64 f2) := (blk_cell h 2).trans rfl
theorem IsS174.set_2 {w0 W : World} {g : Nat} {f0 : List Int} {f1 : Int} {f2 : Int} (h : IsS174 w0 W g f0 f1 f2) (x : Int) : IsS174 w0 (W.setCell ⟨g, 2, none⟩ (.int .i64 x)) g f0 f1 x := by
  obtain ⟨A0, c0, hb, hg, hr0⟩ := h
  exact ⟨A0, c0, by simpa using blk_set hb 2 (.int .i64 x), hg, hr0⟩
theorem IsS174.new (w0 W : World) (A0 : Option Addr) (c0 : Nat) (f0 : List Int) (f1 : Int) (f2 : Int) (hB : Below w0.heap.size w0 W) (hr0 : Kd.C (Kd.int .u8) w0 A0 f0.length f0) : IsS174 w0 (W.alloc (.cells #[.slice A0 f0.length c0, .int .i64 f1, .int .i64 f2] 174)) W.heap.size f0 f1 f2 := ⟨A0, c0, by simpa using heap_alloc_new W _, hB.size, hr0⟩

/-! ### spec_l1New: function 112 -/
def spec_l1New.l0 : Nat → List Int → Int → Int → Option (List Int × Int × Int)
  | 0, _, _, _ => none
  | k + 1, x0, x3, x4 => if x4 < (x0.length : Int) then (if x4 < 4000 then (if 0 ≤ x4 then (spec_l1New.l0 k x0 (Go.bits .and .i64 (wrap64 ((wrap64 ((wrap64 (x3 * 131)) + (wrap64 (rd x0 x4)))) + 7)) 1073741823) (wrap64 (x4 + 1))) else (none)) else (some (x0, 0, x3))) else (some (x0, 0, x3))
def spec_l1New.f (k : Nat) (l0 : List Int) : Option (List Int × Int × Int) := spec_l1New.l0 k l0 (wrap64 (20404 + (l0.length : Int))) 0
theorem spec_l1New.mono_l : ∀ k, (∀ y0 y1 y2, LeO (spec_l1New.l0 k y0 y1 y2) (spec_l1New.l0 (k + 1) y0 y1 y2))
  | 0 => fun _ _ _ r h => by simp [spec_l1New.l0] at h
  | k + 1 => by
    have ih0 := spec_l1New.mono_l k
    · intro y0 y1 y2
      unfold spec_l1New.l0
      repeat' first
      | (with_reducible exact ih0 _ _ _)
      | (with_reducible exact LeO.refl _)
      | (with_reducible exact LeO.none _)
      | (with_reducible refine LeO.ite ?_ ?_)
      | (with_reducible refine LeO.bind ?_ (fun _ => ?_))
      | exact ih0 _ _ _
      | exact LeO.none _
      | refine LeO.ite ?_ ?_
      | refine LeO.bind ?_ (fun _ => ?_)
theorem spec_l1New.mono : ∀ a0 k, LeO (spec_l1New.f k a0) (spec_l1New.f (k + 1) a0) := by
  intro a0 k
  have ih0 := spec_l1New.mono_l k
  unfold spec_l1New.f
  repeat' first
      | (with_reducible exact ih0 _ _ _)
      | (with_reducible exact LeO.refl _)
      | (with_reducible exact LeO.none _)
      | (with_reducible refine LeO.ite ?_ ?_)
      | (with_reducible refine LeO.bind ?_ (fun _ => ?_))
      | exact ih0 _ _ _
      | exact LeO.none _
      | refine LeO.ite ?_ ?_
      | refine LeO.bind ?_ (fun _ => ?_)
set_option maxHeartbeats 8000000 in
set_option maxRecDepth 100000 in
theorem spec_l1New.calls (k : Nat) (A0 : Option Addr) (c0 : Nat) (l0 : List Int) (r1 : List Int) (r2 : Int) (r3 : Int) (w0 w : World) (hB : Below w0.heap.size w0 w) (hr0 : Kd.C (Kd.int .u8) w0 A0 l0.length l0) (hc0 : l0.length ≤ c0) (h : spec_l1New.f k l0 = some (r1, r2, r3)) :
    Calls Try.prog 112 #[.slice A0 l0.length c0] w fun e w' => ∃ g_ : Nat, e = .returned (.pointer (some ⟨g_, 0, none⟩)) ∧ IsS174 w0 w' g_ r1 r2 r3 ∧ Below w0.heap.size w0 w' ∧ Below w.heap.size w w' := by
  have hu174 := Try.underlying174
  have HR0 := Aside0.mk hr0
  have HC0 := Aside0.mk hc0
  clear hr0 hc0
  have HBW := Aside0.mk (Below.refl w.heap.size w)
  have HW0 := Aside0.mk hB.size
  have HB := Aside0.mk hB
  clear hB
  have H : (spec_l1New.l0 k l0 (wrap64 (20404 + (l0.length : Int))) 0) = some (r1, r2, r3) := h
  clear h
  have H' := Aside0.mk H
  clear H
  go_enter Try.func112, Try.ntmps112
  go_wp2
  go_loopg [3, 4] k (fun kq v3 v4 w' => ∃ (x3_1 : Int) (x4_1 : Int), v3 = .int .i64 x3_1 ∧ v4 = .int .i64 x4_1 ∧ Aside0 (spec_l1New.l0 kq l0 x3_1 x4_1 = some (r1, r2, r3)) ∧ Aside0 (kq ≤ k) ∧ Aside0 (Below w0.heap.size w0 w') ∧ Aside0 (Below w.heap.size w w'))
  case atStart => exact ⟨(wrap64 (20404 + (l0.length : Int))), (0), (by first | rfl | (simp; done) | (simp [*]; done)), (by first | rfl | (simp; done) | (simp [*]; done)), H', ⟨Nat.le_refl _⟩, ⟨zB4_0⟩, ⟨zB4_2⟩⟩
  case round =>
    clear H'
    try clear c1
    obtain ⟨x3_1, x4_1, rfl, rfl, HA, HK1, HB, HBW⟩ := hrel
    cases gk with
    | zero => exact absurd HA.out (by simp [spec_l1New.l0])
    | succ k1 =>
      have H := HA.out
      clear HA
      simp only [spec_l1New.l0] at H
      by_cases c2 : x4_1 < (l0.length : Int)
      rotate_left
      · rw [if_neg c2] at H
        have c2b0 : decide (x4_1 < (l0.length : Int)) = false := decide_eq_false c2
        clear c2
        simp only [Option.some.injEq, Prod.mk.injEq] at H
        obtain ⟨rfl, rfl, rfl⟩ := H
        go_wp2_with (first | ((with_reducible refine gate_dst (N := 31) rfl ?_); refine box_event ?hg (N := 31) ?hd (cs := #[.slice A0 l0.length c0, .int .i64 0, .int .i64 x3_1]) (t := 174) ?hr ?_; (case hd => rfl); (case hg => rfl); (case hr => first | (go_simp; done) | (go_simp; rfl)); intro gb196 hg w6 hbox hb; have n0_ := Aside0.mk (below_step HBW.out hb); have n1_ := Aside0.mk (below_step (zB4_0) hb); have n2_ := Aside0.mk (hbox); have n3_ := Aside0.mk ((by rw [hg]; exact (below_size (zB4_2)) : w.heap.size ≤ gb196)); have n4_ := Aside0.mk ((Nat.le_trans HW0.out (by rw [hg]; exact (below_size (zB4_2)) : w.heap.size ≤ gb196) : w0.heap.size ≤ gb196)); clear HBW; clear HB; have HBW := n0_; have HB := n1_; have BK196 := n2_; have GW196 := n3_; have GE196 := n4_; clear n0_ n1_ n2_ n3_ n4_; clear hb hbox hg))
        go_ret
        exact ⟨_, rfl, (show IsS174 w0 _ gb196 l0 0 x3_1 from ⟨_, _, zK4 BK196.out, GE196.out, HR0.out⟩), zB4_5, zB4_6⟩
      rw [if_pos c2] at H
      have c2b0 : decide (x4_1 < (l0.length : Int)) = true := decide_eq_true c2
      clear c2
      by_cases c3 : x4_1 < 4000
      · rw [if_pos c3] at H
        have c3b0 : decide (x4_1 < 4000) = true := decide_eq_true c3
        clear c3
        by_cases c4 : 0 ≤ x4_1
        rotate_left
        · rw [if_neg c4] at H
          exact absurd H (by simp)
        rw [if_pos c4] at H
        have c4b0 : decide (0 ≤ x4_1) = true := decide_eq_true c4
        clear c4
        have H' := Aside0.mk H
        clear H
        have p194 : 0 ≤ (x4_1 : Int) := zA4
        have q194 : x4_1 < (l0.length : Int) := zA4
        obtain ⟨ad194, e194, hx194_0⟩ := Kd.at_int HR0.out x4_1 p194 q194
        cases e194
        replace hx194_0 := pw_cell_below HB.out hx194_0
        replace p194 := eq_true p194
        replace q194 := eq_true q194
        go_wp2
        go_roundg k1
        case measure => have := HK1.out; omega
        case rel => exact ⟨(Go.bits .and .i64 (wrap64 ((wrap64 ((wrap64 (x3_1 * 131)) + (wrap64 (rd l0 x4_1)))) + 7)) 1073741823), (wrap64 (x4_1 + 1)), (by first | rfl | (simp; done) | (simp [*]; done)), (by first | rfl | (simp; done) | (simp [*]; done)), H', ⟨by have := HK1.out; omega⟩, ⟨zB4_0⟩, ⟨zB4_2⟩⟩
      rw [if_neg c3] at H
      have c3b0 : decide (x4_1 < 4000) = false := decide_eq_false c3
      clear c3
      simp only [Option.some.injEq, Prod.mk.injEq] at H
      obtain ⟨rfl, rfl, rfl⟩ := H
      go_wp2_with (first | ((with_reducible refine gate_dst (N := 31) rfl ?_); refine box_event ?hg (N := 31) ?hd (cs := #[.slice A0 l0.length c0, .int .i64 0, .int .i64 x3_1]) (t := 174) ?hr ?_; (case hd => rfl); (case hg => rfl); (case hr => first | (go_simp; done) | (go_simp; rfl)); intro gb195 hg w5 hbox hb; have n0_ := Aside0.mk (below_step HBW.out hb); have n1_ := Aside0.mk (below_step (zB4_0) hb); have n2_ := Aside0.mk (hbox); have n3_ := Aside0.mk ((by rw [hg]; exact (below_size (zB4_2)) : w.heap.size ≤ gb195)); have n4_ := Aside0.mk ((Nat.le_trans HW0.out (by rw [hg]; exact (below_size (zB4_2)) : w.heap.size ≤ gb195) : w0.heap.size ≤ gb195)); clear HBW; clear HB; have HBW := n0_; have HB := n1_; have BK195 := n2_; have GW195 := n3_; have GE195 := n4_; clear n0_ n1_ n2_ n3_ n4_; clear hb hbox hg))
      go_ret
      exact ⟨_, rfl, (show IsS174 w0 _ gb195 l0 0 x3_1 from ⟨_, _, zK4 BK195.out, GE195.out, HR0.out⟩), zB4_3, zB4_4⟩

end Go.Proofs.Ytddncenhddiemaa.PFnPlaced
