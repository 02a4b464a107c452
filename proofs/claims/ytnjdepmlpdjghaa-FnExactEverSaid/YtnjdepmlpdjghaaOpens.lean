import Derived.Test.YtnjdepmlpdjghaaWWords
import Derived.OpenShut
/- A value that reads as data is of its kind: the structs and slices that a law is handed. -/
namespace Go.Proofs.Ytnjdepmlpdjghaa.Opens
open Go.RowKit Go.Proofs.YtnjdepmlpdjghaaW.PrintWords
variable {H : Type} {enc : TypeId × Value → H} {P : Program} {w : World} {α β γ : Type}
/-- What reads as data at type t is of the kind d, and G holds of it. -/
def Opens (enc : TypeId × Value → H) (P : Program) (w : World) (t : TypeId) (d : Kd α) (G : α → Prop) : Prop :=
  ∀ (fuel : Nat) (cs : List Value) (x : DataW H × List MemPlace), DataW.trod enc P w 0 (fun _ => true) true fuel t cs = some x → ∃ a : α, d.K w a cs ∧ G a
theorem opens_int {t : TypeId} {k : IntKind} (ht : P.underlying t = some (.int k)) : Opens enc P w t (Kd.int k) (fun n => (Lit.int k n).wf = true) := by
  intro fuel cs x h
  cases fuel with
  | zero => simp [DataW.trod] at h
  | succ fuel =>
    unfold DataW.trod at h
    rw [ht] at h
    split at h <;> simp_all
    rename_i k' n e
    obtain ⟨⟨rfl, hw⟩, _⟩ := h
    exact ⟨n, rfl, hw⟩
theorem opens_bool {t : TypeId} (ht : P.underlying t = some .bool) : Opens enc P w t Kd.bool (fun _ => True) := by
  intro fuel cs x h
  cases fuel with
  | zero => simp [DataW.trod] at h
  | succ fuel =>
    unfold DataW.trod at h
    rw [ht] at h
    split at h <;> first | exact ⟨_, rfl, trivial⟩ | (exfalso; simp_all; done)
theorem opens_str {t : TypeId} (ht : P.underlying t = some .string) : Opens enc P w t Kd.string (fun s => s.size ≤ maxLen) := by
  intro fuel cs x h
  cases fuel with
  | zero => simp [DataW.trod] at h
  | succ fuel =>
    unfold DataW.trod at h
    rw [ht] at h
    split at h <;> simp_all
    exact ⟨_, rfl, h.1⟩
theorem mapM_get {α β : Type} {f : α → Option β} : ∀ {l : List α} {ys : List β}, l.mapM f = some ys → ys.length = l.length ∧ ∀ (i : Nat) (x : α), l[i]? = some x → ∃ y, ys[i]? = some y ∧ f x = some y
  | [], ys, h => by
    simp at h; subst h; exact ⟨rfl, fun i x hx => by simp at hx⟩
  | a :: l, ys, h => by
    simp only [List.mapM_cons, Option.bind_eq_bind, Option.bind_eq_some_iff] at h
    obtain ⟨y, hy, zs, hz, he⟩ := h
    obtain ⟨hl, hg⟩ := mapM_get hz
    simp only [Option.pure_def, Option.some.injEq] at he
    subst he
    refine ⟨by simp [hl], fun i x hx => ?_⟩
    cases i with
    | zero => simp at hx; subst hx; exact ⟨y, by simp, hy⟩
    | succ i => obtain ⟨z, h1, h2⟩ := hg i x (by simpa using hx); exact ⟨z, by simpa using h1, h2⟩
theorem cells_of {w : World} {base n : Nat} {a : Addr} {cs : List Value} (h : w.cells? base a n = some cs) : cs.length = n ∧ ∀ (i : Nat) (u : Value), cs[i]? = some u → w.cell? (a.add i) = some u := by
  unfold World.cells? at h
  split at h
  · obtain ⟨hl, hg⟩ := mapM_get h
    rw [List.length_range] at hl
    refine ⟨hl, fun i u hu => ?_⟩
    have hi : i < n := by have := (List.getElem?_eq_some_iff.1 hu).1; omega
    obtain ⟨y, h1, h2⟩ := hg i i (by simp [hi])
    rw [hu] at h1; cases h1; exact h2
  · cases h
theorem pick_all {β : Type} (p : Nat → β → Prop) : ∀ (n : Nat), (∀ i, i < n → ∃ y, p i y) → ∃ ys : List β, ys.length = n ∧ ∀ (i : Nat) (y : β), ys[i]? = some y → p i y
  | 0, _ => ⟨[], rfl, fun i y h => by simp at h⟩
  | n + 1, h => by
    obtain ⟨ys, hl, hp⟩ := pick_all p n (fun i hi => h i (by omega))
    obtain ⟨y, hy⟩ := h n (by omega)
    refine ⟨ys ++ [y], by simp [hl], fun i z hz => ?_⟩
    by_cases hi : i < n
    · rw [List.getElem?_append_left (by omega)] at hz; exact hp i z hz
    · have hi' : i = n := by have := (List.getElem?_eq_some_iff.1 hz).1; simp at this; omega
      subst hi'
      rw [List.getElem?_append_right (by omega), hl, Nat.sub_self] at hz
      simp at hz; subst hz; exact hy
theorem addr_add_add (a : Addr) (i j : Nat) : (a.add i).add j = a.add (i + j) := by
  unfold Addr.add; split <;> (try split) <;> simp_all <;> omega
theorem opens_slice {t e : TypeId} {d : Kd α} {G : α → Prop} (ht : P.underlying t = some (.slice e)) (hs : P.cellsOf e = d.sz) (he : Opens enc P w e d G) :
    Opens enc P w t (Kd.slice e d) (fun l => l.length ≤ maxLen ∧ ∀ x ∈ l, G x) := by
  intro fuel cs x h
  cases fuel with
  | zero => simp [DataW.trod] at h
  | succ fuel =>
    unfold DataW.trod at h
    rw [ht] at h
    split at h <;> first | (exfalso; simp_all; done) | skip
    · exact ⟨[], ⟨none, 0, rfl, Nat.le_refl _, Kd.C_nil d w⟩, Nat.zero_le _, fun x hx => by simp at hx⟩
    · rename_i e' a len cap he'
      obtain rfl : e = e' := by simpa using he'
      split at h
      · rename_i hc
        rw [Option.bind_eq_some_iff] at h
        obtain ⟨elems, hm, _⟩ := h
        obtain ⟨hl, hg⟩ := mapM_get hm
        rw [List.length_range] at hl
        have hall : ∀ i, i < len → ∃ y : α, G y ∧ ∃ c : List Value, c.length = d.sz ∧ d.K w y c ∧ ∀ (j : Nat) u, c[j]? = some u → w.cell? (a.add (i * d.sz + j)) = some u := by
          intro i hi
          obtain ⟨y, _, h2⟩ := hg i i (by simp [hi])
          rw [Option.bind_eq_some_iff] at h2
          obtain ⟨c, h3, h4⟩ := h2
          obtain ⟨hcl, hcc⟩ := cells_of h3
          obtain ⟨z, hz, hG⟩ := he _ _ _ h4
          refine ⟨z, hG, c, by rw [hcl, hs], hz, fun j u hu => ?_⟩
          rw [← addr_add_add, ← hs]; exact hcc j u hu
        obtain ⟨ys, hyl, hyp⟩ := pick_all _ len hall
        subst hyl
        refine ⟨ys, ⟨some a, cap, rfl, hc.2.1, rfl, ?_, fun _ => ⟨a, rfl, fun j p hp => ?_⟩⟩, Nat.le_trans hc.2.1 hc.2.2, fun x hx => ?_⟩
        · have := hc.2.1; have := hc.2.2; unfold maxLen at this; omega
        · obtain ⟨_, c, h1, h2, h3⟩ := hyp j p hp; exact ⟨c, h1, h2, h3⟩
        · obtain ⟨j, hj, rfl⟩ := List.getElem_of_mem hx
          exact (hyp j _ (List.getElem?_eq_getElem hj)).1
      · cases h
/-- The fields of a struct, from a place on. -/
def OpensF (enc : TypeId × Value → H) (P : Program) (w : World) (fs : List Field) (off : Nat) (d : Kd α) (G : α → Prop) : Prop :=
  ∀ (fuel : Nat) (cs : List Value), (∀ f ∈ fs, ∃ y, DataW.trod enc P w 0 (fun _ => true) true fuel f.type ((cs.drop f.offset).take (P.cellsOf f.type)) = some y) → cs.length = off + d.sz → ∃ a, d.K w a (cs.drop off) ∧ G a
theorem opensF_last {f : Field} {off : Nat} {d : Kd α} {G : α → Prop} (ho : f.offset = off) (hs : P.cellsOf f.type = d.sz) (h : Opens enc P w f.type d G) : OpensF enc P w [f] off d G := by
  intro fuel cs hf hl
  obtain ⟨y, hy⟩ := hf f (by simp)
  rw [ho, hs, List.take_of_length_le (by simp; omega)] at hy
  exact h _ _ _ hy
theorem opensF_cons {f : Field} {fs : List Field} {off : Nat} {d : Kd α} {d' : Kd β} {G : α → Prop} {G' : β → Prop} (ho : f.offset = off) (hs : P.cellsOf f.type = d.sz) (h : Opens enc P w f.type d G) (h' : OpensF enc P w fs (off + d.sz) d' G') :
    OpensF enc P w (f :: fs) off (Kd.pair d d') (fun x => G x.1 ∧ G' x.2) := by
  intro fuel cs hf hl
  have hl' : cs.length = off + d.sz + d'.sz := by
    have e : (Kd.pair d d').sz = d.sz + d'.sz := rfl
    omega
  obtain ⟨y, hy⟩ := hf f (by simp)
  rw [ho, hs] at hy
  obtain ⟨a, ha, hG⟩ := h _ _ _ hy
  obtain ⟨b, hb, hG'⟩ := h' fuel cs (fun g hg => hf g (by simp [hg])) hl'
  refine ⟨(a, b), ⟨(cs.drop off).take d.sz, cs.drop (off + d.sz), ?_, ha, hb⟩, hG, hG'⟩
  rw [← List.drop_drop, List.take_append_drop]
theorem opens_struct {t : TypeId} {fs : Array Field} {d : Kd α} {G : α → Prop} {mk : α → β} {f : β → α} (hf : ∀ a, f (mk a) = a) (ht : P.underlying t = some (.struct fs)) (hs : P.cellsOf t = d.sz) (h : OpensF enc P w fs.toList 0 d G) :
    Opens enc P w t (Kd.iso d f) (fun b => G (f b)) := by
  intro fuel cs x hx
  cases fuel with
  | zero => simp [DataW.trod] at hx
  | succ fuel =>
    unfold DataW.trod at hx
    rw [ht] at hx
    split at hx <;> first | (exfalso; simp_all; done) | skip
    rename_i cs0 fs' he
    obtain rfl : fs = fs' := by simpa using he
    split at hx
    · rename_i hl
      rw [Option.map_eq_some_iff] at hx
      obtain ⟨xs, hm, _⟩ := hx
      obtain ⟨_, hg⟩ := mapM_get hm
      obtain ⟨a, ha, hG⟩ := h fuel _ (fun g hgm => by
        obtain ⟨i, hi, rfl⟩ := List.getElem_of_mem hgm
        obtain ⟨y, _, hy⟩ := hg i _ (List.getElem?_eq_getElem hi)
        exact ⟨y, hy⟩) (by rw [hl, hs]; omega)
      refine ⟨mk a, ?_, by show G (f (mk a)); rw [hf]; exact hG⟩
      show d.K w (f (mk a)) _
      rw [hf]; simpa using ha
    · cases hx
theorem okWide_agg {t : TypeId} {fs : Array Field} {r : Reach} {base : Nat} {v : Value} (ht : P.underlying t = some (.struct fs)) (h : Value.okWide P w r base t v) : ∃ cs, v = .agg cs := by
  unfold Value.okWide at h
  rw [ht] at h
  obtain ⟨cs, e, _⟩ := h
  exact ⟨cs, e⟩
theorem Opens.imp {t : TypeId} {d : Kd α} {G G' : α → Prop} (h : Opens enc P w t d G) (hg : ∀ a, G a → G' a) : Opens enc P w t d G' := by
  intro fuel cs x hx
  obtain ⟨a, ha, hG⟩ := h fuel cs x hx
  exact ⟨a, ha, hg a hG⟩
/-- A parameter. -/
theorem Opens.trod {t : TypeId} {d : Kd α} {G : α → Prop} (h : Opens enc P w t d G) {v : Value} {dd : DataW H} {ps : List MemPlace} (hv : DataW.Trod enc P w 0 (fun _ => true) true t v dd ps) : ∃ a, d.K w a v.cells.toList ∧ G a := by
  obtain ⟨fuel, hf⟩ := hv
  exact h _ _ _ hf
end Go.Proofs.Ytnjdepmlpdjghaa.Opens
