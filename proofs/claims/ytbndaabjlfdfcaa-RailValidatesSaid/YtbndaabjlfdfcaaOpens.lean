/- How the argument of a law, of whatever kind, is read: a value of the kind's Lean type, its cells, and what is known of it. -/
import Derived.Test.YtbndaabjlfdfcaaWWords
import Derived.SizedLaws
import Derived.ChangeSlices
import Derived.Deep.Slices
namespace Go.Proofs.YtbndaabjlfdfcaaW.Opening
open Go.ChangeShapes Go.WideShapes Go.Deep Go.Proofs.YtbndaabjlfdfcaaW.PrintWords

def GInt (k : IntKind) (n : Int) : Prop := (Lit.int k n).wf = true
def GBool (_ : Bool) : Prop := True
def GStr (s : ByteArray) : Prop := s.size ≤ 140737488351232
def GSlice {α : Type} (B : Nat) (G : α → Prop) (l : List α) : Prop := l.length * B ≤ 140737488351232 ∧ l.length ≤ 9223372036854775807 ∧ ∀ x ∈ l, G x
def GPair {α β : Type} (G : α → Prop) (G' : β → Prop) (x : α × β) : Prop := G x.1 ∧ G' x.2

section
variable {H : Type} {enc : TypeId × Value → H} {P : Program} {w : World}

def Opens (enc : TypeId × Value → H) (P : Program) (w : World) {α : Type} (d : Kd α) (t : TypeId) (G : α → Prop) : Prop :=
  ∀ (fuel : Nat) (cs : List Value) (x : DataW H × List MemPlace), DataW.trod enc P w 0 (fun _ => true) true fuel t cs = some x →
    (∀ n ∈ x.1.weights P t, n ≤ reachBytes) → ∃ v : α, d.K w v cs ∧ G v

theorem Opens.int {t : TypeId} {k : IntKind} (hu : P.underlying t = some (.int k)) : Opens enc P w (Kd.int k) t (GInt k) := by
  intro fuel cs x h _
  obtain ⟨n, rfl, rfl, hw⟩ := DataW.trod_int hu h
  exact ⟨n, rfl, hw⟩
theorem Opens.bool {t : TypeId} (hu : P.underlying t = some .bool) : Opens enc P w Kd.bool t GBool := by
  intro fuel cs x h _
  obtain ⟨n, rfl, rfl⟩ := DataW.trod_bool hu h
  exact ⟨n, rfl, trivial⟩
theorem Opens.string {t : TypeId} (hu : P.underlying t = some .string) : Opens enc P w Kd.string t GStr := by
  intro fuel cs x h hw
  obtain ⟨n, rfl, rfl, _⟩ := DataW.trod_string hu h
  refine ⟨n, rfl, ?_⟩
  have := hw n.data.toList.length (by simp [DataW.weights])
  rw [Array.length_toList] at this
  exact this
theorem Opens.iso {α β : Type} {d : Kd α} {t : TypeId} {G : α → Prop} (f : β → α) (g : α → β) (hfg : ∀ x, f (g x) = x) (ho : Opens enc P w d t G) : Opens enc P w (Kd.iso d f) t (fun x => G (f x)) := by
  intro fuel cs x h hw
  obtain ⟨v, hK, hG⟩ := ho fuel cs x h hw
  exact ⟨g v, by show d.K w (f (g v)) cs; rw [hfg]; exact hK, by show G (f (g v)); rw [hfg]; exact hG⟩
theorem weights_mem_all {e : TypeId} : ∀ {ds : List (DataW H)} {d : DataW H}, d ∈ ds → ∀ n ∈ d.weights P e, n ∈ DataW.weightsAll P e ds
  | _ :: _, _, .head _, n, hn => by
    simp only [DataW.weightsAll, List.mem_append]
    exact Or.inl hn
  | _ :: _, _, .tail _ h, n, hn => by
    simp only [DataW.weightsAll, List.mem_append]
    exact Or.inr (weights_mem_all h n hn)
theorem Opens.slice {α : Type} {d : Kd α} {t e : TypeId} {G : α → Prop} {B : Nat} [Inhabited α] (hu : P.underlying t = some (.slice e)) (hc : P.cellsOf e = d.sz) (hB : P.bytesOf e = B) (ho : Opens enc P w d e G) : Opens enc P w (Kd.slice e d) t (GSlice B G) := by
  intro fuel cs x h hw
  rcases open_slice hu h with ⟨rfl, rfl⟩ | ⟨a, len, cap, m, n, D, Pl, rfl, _, hl, hm, hmm, rfl, hx⟩
  · exact ⟨[], ⟨none, 0, rfl, Nat.le_refl _, rfl, by simp, fun h => absurd h (by simp)⟩, by simp, by simp, fun x hx => by simp at hx⟩
  · rw [if_pos rfl] at hmm
    subst hmm
    simp only [DataW.weights, hu] at hw
    have hlenB : len * B ≤ 140737488351232 := by
      have := hw _ List.mem_cons_self
      rw [List.length_map, List.length_map, List.length_range, List.length_range, hB] at this
      exact Nat.le_trans (Nat.mul_le_mul_right _ (by omega)) this
    have hel : ∀ i, i < len → ∃ v : α, (∃ cs', cs'.length = d.sz ∧ d.K w v cs' ∧ ∀ j u, cs'[j]? = some u → w.cell? (a.add (i * d.sz + j)) = some u) ∧ G v := by
      intro i hi
      obtain ⟨cs', h1, h2⟩ := hx i (by omega)
      rw [hc] at h1
      obtain ⟨v, hK, hG⟩ := ho n cs' (D i, Pl i) h2 (fun q hq => hw q (List.mem_cons_of_mem _ (List.mem_append_left _ (weights_mem_all (List.mem_map.2 ⟨i, List.mem_range.2 hi, rfl⟩) q hq))))
      obtain ⟨_, hcl, hat⟩ := World.cells?_some h1
      refine ⟨v, ⟨cs', hcl, hK, fun j u hj => ?_⟩, hG⟩
      have hjl : j < d.sz := by
        obtain ⟨h3, _⟩ := List.getElem?_eq_some_iff.1 hj
        omega
      rw [← Go.Deep.add_add, hat j hjl, hj]
    obtain ⟨V, hV⟩ := choose_lt hel
    have hml : maxLen = 9223372036854775807 := rfl
    refine ⟨(List.range len).map V, ⟨some a, m, by rw [List.length_map, List.length_range], by simpa using hl, ?_⟩, ⟨by simpa using hlenB, by simp; omega, ?_⟩⟩
    · refine ⟨rfl, by simp; omega, fun _ => ⟨a, rfl, fun j p hj => ?_⟩⟩
      obtain ⟨hj1, hj2⟩ := List.getElem?_eq_some_iff.1 hj
      simp at hj1 hj2
      subst hj2
      exact (hV j hj1).1
    · intro x hx
      obtain ⟨i, hi, rfl⟩ := List.mem_map.1 hx
      exact (hV i (List.mem_range.1 hi)).2

def OpensF (enc : TypeId × Value → H) (P : Program) (w : World) {α : Type} (d : Kd α) (fs : List Field) (off : Nat) (G : α → Prop) : Prop :=
  ∀ (n : Nat) (cs : List Value) (ys : List (DataW H × List MemPlace)), cs.length = off + d.sz → ys.length = fs.length →
    (∀ (i : Nat) (f : Field), fs[i]? = some f → DataW.trod enc P w 0 (fun _ => true) true n f.type ((cs.drop f.offset).take (P.cellsOf f.type)) = ys[i]?) →
    (∀ n ∈ DataW.weightsEach P (fs.map (·.type)) (ys.map (·.1)), n ≤ reachBytes) → ∃ v : α, d.K w v (cs.drop off) ∧ G v

theorem OpensF.one {α : Type} {d : Kd α} {f : Field} {off : Nat} {G : α → Prop} (hoff : f.offset = off) (hc : P.cellsOf f.type = d.sz) (ho : Opens enc P w d f.type G) : OpensF enc P w d [f] off G := by
  intro n cs ys hcs hys h hw
  match ys, hys with
  | [y], _ =>
    have h0 := h 0 f rfl
    rw [hoff, hc, List.take_of_length_le (by rw [List.length_drop]; omega)] at h0
    exact ho n _ y h0 (fun q hq => hw q (by simp [DataW.weightsEach]; exact hq))
theorem OpensF.cons {α β : Type} {a : Kd α} {b : Kd β} {f : Field} {fs : List Field} {off : Nat} {G : α → Prop} {G' : β → Prop} (hoff : f.offset = off) (hc : P.cellsOf f.type = a.sz) (ho : Opens enc P w a f.type G) (hr : OpensF enc P w b fs (off + a.sz) G') : OpensF enc P w (Kd.pair a b) (f :: fs) off (GPair G G') := by
  intro n cs ys hcs hys h hw
  have hcs' : cs.length = off + (a.sz + b.sz) := hcs
  match ys, hys with
  | y :: ys, hys =>
    have h0 := h 0 f rfl
    rw [hoff, hc] at h0
    obtain ⟨v0, hK0, hG0⟩ := ho n _ y h0 (fun q hq => hw q (by simp only [List.map_cons, DataW.weightsEach, List.mem_append]; exact Or.inl hq))
    obtain ⟨v1, hK1, hG1⟩ := hr n cs ys (by omega) (by simpa using hys) (fun i g hg => by have := h (i + 1) g (by simpa using hg); simpa using this) (fun q hq => hw q (by simp only [List.map_cons, DataW.weightsEach, List.mem_append]; exact Or.inr hq))
    refine ⟨(v0, v1), ⟨_, _, ?_, hK0, hK1⟩, hG0, hG1⟩
    rw [← List.drop_drop, List.take_append_drop]
theorem Opens.struct {α : Type} {d : Kd α} {t : TypeId} {fs : Array Field} {G : α → Prop} (hu : P.underlying t = some (.struct fs)) (hc : P.cellsOf t = d.sz) (ho : OpensF enc P w d fs.toList 0 G) : Opens enc P w d t G := by
  intro fuel cs x h hw
  obtain ⟨xs, n, _, rfl, hlen, hxl, hf⟩ := DataW.trod_struct hu h
  simp only [DataW.weights, hu] at hw
  exact ho n cs xs (by omega) (by simpa using hxl) (fun i f hi => hf i f (by simpa using hi)) hw

/-- A parameter that is a struct. -/
theorem open_agg_any {α : Type} {d : Kd α} {t : TypeId} {fs : Array Field} {G : α → Prop} {r : Reach} {b0 : Nat} {v : Value} {D : DataW H} {ps : List MemPlace} {ts : List TypeId} {ds : List (DataW H)} {j : Nat}
    (hu : P.underlying t = some (.struct fs)) (ho : Opens enc P w d t G) (hv : Value.okWide P w r b0 t v) (h : DataW.Trod enc P w 0 (fun _ => true) true t v D ps)
    (hsz : (DataW.weightsEach P ts ds).all (· ≤ reachBytes) = true) (ht : ts[j]? = some t) (hd : ds[j]? = some D) : ∃ (x : α) (cs : List Value), v = .agg cs.toArray ∧ d.K w x cs ∧ G x := by
  obtain ⟨cs, rfl, _⟩ := okWide_struct hu hv
  obtain ⟨fuel, hf⟩ := h
  obtain ⟨x, hK, hG⟩ := ho fuel _ _ hf (fun n hn => by have := List.all_eq_true.1 hsz n (DataW.weights_mem_each ht hd n hn); simpa using this)
  exact ⟨x, cs.toList, by simp, hK, hG⟩
/-- A parameter that is a slice. -/
theorem open_row_any {α : Type} {d : Kd α} {t e : TypeId} {G : List α → Prop} {r : Reach} {b0 : Nat} {v : Value} {D : DataW H} {ps : List MemPlace} {ts : List TypeId} {ds : List (DataW H)} {j : Nat}
    (hu : P.underlying t = some (.slice e)) (ho : Opens enc P w (Kd.slice e d) t G) (hv : Value.okWide P w r b0 t v) (h : DataW.Trod enc P w 0 (fun _ => true) true t v D ps)
    (hsz : (DataW.weightsEach P ts ds).all (· ≤ reachBytes) = true) (ht : ts[j]? = some t) (hd : ds[j]? = some D) : ∃ (x : List α) (A : Option Addr) (c : Nat), v = .slice A x.length c ∧ x.length ≤ c ∧ d.C w A x.length x ∧ G x := by
  obtain ⟨a, len, cap, rfl⟩ := okWide_slice hu hv
  obtain ⟨fuel, hf⟩ := h
  obtain ⟨x, ⟨A, c, he, hl, hC⟩, hG⟩ := ho fuel _ _ hf (fun n hn => by have := List.all_eq_true.1 hsz n (DataW.weights_mem_each ht hd n hn); simpa using this)
  simp [Value.cells] at he
  obtain ⟨rfl, rfl, rfl⟩ := he
  exact ⟨x, a, cap, rfl, hl, hC, hG⟩
end
end Go.Proofs.YtbndaabjlfdfcaaW.Opening
