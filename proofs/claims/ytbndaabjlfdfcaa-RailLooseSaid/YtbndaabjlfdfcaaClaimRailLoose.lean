/- The law RailLoose: it answers true for every input, and its arguments read afterwards as they did. The row, out of the pure statement and the walk (written by a program of this session's: mylaw.py). -/
import Derived.Test.YtbndaabjlfdfcaaRows
import Derived.Test.YtbndaabjlfdfcaaWWords
import Derived.SizedLaws
import Derived.ChangeSlices
import Derived.Deep.Slices
import Derived.Test.YtbndaabjlfdfcaaPRailx0
import Derived.Test.YtbndaabjlfdfcaaPRailxF9
import Derived.Test.YtbndaabjlfdfcaaPRailxF20
import Derived.Test.YtbndaabjlfdfcaaPRailxF21
import Derived.Test.YtbndaabjlfdfcaaPRailxF23
import Derived.Test.YtbndaabjlfdfcaaPRailxF17
import Derived.Test.YtbndaabjlfdfcaaPRailxF16
import Derived.Test.YtbndaabjlfdfcaaPRailxF18
import Derived.Test.YtbndaabjlfdfcaaPRailxF19
import Derived.Test.YtbndaabjlfdfcaaPRailxF45
import Derived.Test.YtbndaabjlfdfcaaPRailxF47
import Derived.Test.YtbndaabjlfdfcaaPRailxF33
import Derived.Test.YtbndaabjlfdfcaaPRailxF53
import Derived.Test.YtbndaabjlfdfcaaPRailxF54
import Derived.Test.YtbndaabjlfdfcaaPRailxF55
import Derived.Test.YtbndaabjlfdfcaaPRailxF56
import Derived.Test.YtbndaabjlfdfcaaPRailxF31
import Derived.Test.YtbndaabjlfdfcaaPRailxF32
import Derived.WalkKit
import Derived.ProofKit
import Derived.OpenShut
import Derived.ShutString
import Derived.ChangeOld
import Derived.Below
/- How the argument of a law, of whatever kind, is read: a value of the kind's Lean type, its cells, and what is known of it. -/
namespace Go.Proofs.YtbndaabjlfdfcaaW.Opening
open Go.ChangeShapes Go.WideShapes Go.Deep Go.Proofs.YtbndaabjlfdfcaaW.PrintWords

def GInt (k : IntKind) (n : Int) : Prop := (Lit.int k n).wf = true
def GBool (_ : Bool) : Prop := True
def GStr (s : ByteArray) : Prop := s.size ≤ 140737488351232
def GSlice {α : Type} (B : Nat) (G : α → Prop) (l : List α) : Prop := l.length * B ≤ 140737488351232 ∧ l.length ≤ 9223372036854775807 ∧ ∀ x ∈ l, G x
def GPair {α β : Type} (G : α → Prop) (G' : β → Prop) (x : α × β) : Prop := G x.1 ∧ G' x.2

section
variable {H : Type} {enc : TypeId × Value → H} {P : Program} {w : World}

def Opens (enc : TypeId × Value → H) (P : Program) (w : World) {α : Type} (d : Kd α) (t : TypeId) (G : α → Prop) : Prop :=
  ∀ (fuel : Nat) (cs : List Value) (x : DataW H × List MemPlace), DataW.trod enc P w 0 (fun _ => true) true fuel t cs = some x →
    (∀ n ∈ x.1.weights P t, n ≤ reachBytes) → ∃ v : α, d.K w v cs ∧ G v

theorem Opens.int {t : TypeId} {k : IntKind} (hu : P.underlying t = some (.int k)) : Opens enc P w (Kd.int k) t (GInt k) := by
  intro fuel cs x h _
  obtain ⟨n, rfl, rfl, hw⟩ := DataW.trod_int hu h
  exact ⟨n, rfl, hw⟩
theorem Opens.bool {t : TypeId} (hu : P.underlying t = some .bool) : Opens enc P w Kd.bool t GBool := by
  intro fuel cs x h _
  obtain ⟨n, rfl, rfl⟩ := DataW.trod_bool hu h
  exact ⟨n, rfl, trivial⟩
theorem Opens.string {t : TypeId} (hu : P.underlying t = some .string) : Opens enc P w Kd.string t GStr := by
  intro fuel cs x h hw
  obtain ⟨n, rfl, rfl, _⟩ := DataW.trod_string hu h
  refine ⟨n, rfl, ?_⟩
  have := hw n.data.toList.length (by simp [DataW.weights])
  rw [Array.length_toList] at this
  exact this
theorem Opens.iso {α β : Type} {d : Kd α} {t : TypeId} {G : α → Prop} (f : β → α) (g : α → β) (hfg : ∀ x, f (g x) = x) (ho : Opens enc P w d t G) : Opens enc P w (Kd.iso d f) t (fun x => G (f x)) := by
  intro fuel cs x h hw
  obtain ⟨v, hK, hG⟩ := ho fuel cs x h hw
  exact ⟨g v, by show d.K w (f (g v)) cs; rw [hfg]; exact hK, by show G (f (g v)); rw [hfg]; exact hG⟩
theorem weights_mem_all {e : TypeId} : ∀ {ds : List (DataW H)} {d : DataW H}, d ∈ ds → ∀ n ∈ d.weights P e, n ∈ DataW.weightsAll P e ds
  | _ :: _, _, .head _, n, hn => by
    simp only [DataW.weightsAll, List.mem_append]
    exact Or.inl hn
  | _ :: _, _, .tail _ h, n, hn => by
    simp only [DataW.weightsAll, List.mem_append]
    exact Or.inr (weights_mem_all h n hn)
theorem Opens.slice {α : Type} {d : Kd α} {t e : TypeId} {G : α → Prop} {B : Nat} [Inhabited α] (hu : P.underlying t = some (.slice e)) (hc : P.cellsOf e = d.sz) (hB : P.bytesOf e = B) (ho : Opens enc P w d e G) : Opens enc P w (Kd.slice e d) t (GSlice B G) := by
  intro fuel cs x h hw
  rcases open_slice hu h with ⟨rfl, rfl⟩ | ⟨a, len, cap, m, n, D, Pl, rfl, _, hl, hm, hmm, rfl, hx⟩
  · exact ⟨[], ⟨none, 0, rfl, Nat.le_refl _, rfl, by simp, fun h => absurd h (by simp)⟩, by simp, by simp, fun x hx => by simp at hx⟩
  · rw [if_pos rfl] at hmm
    subst hmm
    simp only [DataW.weights, hu] at hw
    have hlenB : len * B ≤ 140737488351232 := by
      have := hw _ List.mem_cons_self
      rw [List.length_map, List.length_map, List.length_range, List.length_range, hB] at this
      exact Nat.le_trans (Nat.mul_le_mul_right _ (by omega)) this
    have hel : ∀ i, i < len → ∃ v : α, (∃ cs', cs'.length = d.sz ∧ d.K w v cs' ∧ ∀ j u, cs'[j]? = some u → w.cell? (a.add (i * d.sz + j)) = some u) ∧ G v := by
      intro i hi
      obtain ⟨cs', h1, h2⟩ := hx i (by omega)
      rw [hc] at h1
      obtain ⟨v, hK, hG⟩ := ho n cs' (D i, Pl i) h2 (fun q hq => hw q (List.mem_cons_of_mem _ (List.mem_append_left _ (weights_mem_all (List.mem_map.2 ⟨i, List.mem_range.2 hi, rfl⟩) q hq))))
      obtain ⟨_, hcl, hat⟩ := World.cells?_some h1
      refine ⟨v, ⟨cs', hcl, hK, fun j u hj => ?_⟩, hG⟩
      have hjl : j < d.sz := by
        obtain ⟨h3, _⟩ := List.getElem?_eq_some_iff.1 hj
        omega
      rw [← Go.Deep.add_add, hat j hjl, hj]
    obtain ⟨V, hV⟩ := choose_lt hel
    have hml : maxLen = 9223372036854775807 := rfl
    refine ⟨(List.range len).map V, ⟨some a, m, by rw [List.length_map, List.length_range], by simpa using hl, ?_⟩, ⟨by simpa using hlenB, by simp; omega, ?_⟩⟩
    · refine ⟨rfl, by simp; omega, fun _ => ⟨a, rfl, fun j p hj => ?_⟩⟩
      obtain ⟨hj1, hj2⟩ := List.getElem?_eq_some_iff.1 hj
      simp at hj1 hj2
      subst hj2
      exact (hV j hj1).1
    · intro x hx
      obtain ⟨i, hi, rfl⟩ := List.mem_map.1 hx
      exact (hV i (List.mem_range.1 hi)).2

def OpensF (enc : TypeId × Value → H) (P : Program) (w : World) {α : Type} (d : Kd α) (fs : List Field) (off : Nat) (G : α → Prop) : Prop :=
  ∀ (n : Nat) (cs : List Value) (ys : List (DataW H × List MemPlace)), cs.length = off + d.sz → ys.length = fs.length →
    (∀ (i : Nat) (f : Field), fs[i]? = some f → DataW.trod enc P w 0 (fun _ => true) true n f.type ((cs.drop f.offset).take (P.cellsOf f.type)) = ys[i]?) →
    (∀ n ∈ DataW.weightsEach P (fs.map (·.type)) (ys.map (·.1)), n ≤ reachBytes) → ∃ v : α, d.K w v (cs.drop off) ∧ G v

theorem OpensF.one {α : Type} {d : Kd α} {f : Field} {off : Nat} {G : α → Prop} (hoff : f.offset = off) (hc : P.cellsOf f.type = d.sz) (ho : Opens enc P w d f.type G) : OpensF enc P w d [f] off G := by
  intro n cs ys hcs hys h hw
  match ys, hys with
  | [y], _ =>
    have h0 := h 0 f rfl
    rw [hoff, hc, List.take_of_length_le (by rw [List.length_drop]; omega)] at h0
    exact ho n _ y h0 (fun q hq => hw q (by simp [DataW.weightsEach]; exact hq))
theorem OpensF.cons {α β : Type} {a : Kd α} {b : Kd β} {f : Field} {fs : List Field} {off : Nat} {G : α → Prop} {G' : β → Prop} (hoff : f.offset = off) (hc : P.cellsOf f.type = a.sz) (ho : Opens enc P w a f.type G) (hr : OpensF enc P w b fs (off + a.sz) G') : OpensF enc P w (Kd.pair a b) (f :: fs) off (GPair G G') := by
  intro n cs ys hcs hys h hw
  have hcs' : cs.length = off + (a.sz + b.sz) := hcs
  match ys, hys with
  | y :: ys, hys =>
    have h0 := h 0 f rfl
    rw [hoff, hc] at h0
    obtain ⟨v0, hK0, hG0⟩ := ho n _ y h0 (fun q hq => hw q (by simp only [List.map_cons, DataW.weightsEach, List.mem_append]; exact Or.inl hq))
    obtain ⟨v1, hK1, hG1⟩ := hr n cs ys (by omega) (by simpa using hys) (fun i g hg => by have := h (i + 1) g (by simpa using hg); simpa using this) (fun q hq => hw q (by simp only [List.map_cons, DataW.weightsEach, List.mem_append]; exact Or.inr hq))
    refine ⟨(v0, v1), ⟨_, _, ?_, hK0, hK1⟩, hG0, hG1⟩
    rw [← List.drop_drop, List.take_append_drop]
theorem Opens.struct {α : Type} {d : Kd α} {t : TypeId} {fs : Array Field} {G : α → Prop} (hu : P.underlying t = some (.struct fs)) (hc : P.cellsOf t = d.sz) (ho : OpensF enc P w d fs.toList 0 G) : Opens enc P w d t G := by
  intro fuel cs x h hw
  obtain ⟨xs, n, _, rfl, hlen, hxl, hf⟩ := DataW.trod_struct hu h
  simp only [DataW.weights, hu] at hw
  exact ho n cs xs (by omega) (by simpa using hxl) (fun i f hi => hf i f (by simpa using hi)) hw

/-- A parameter that is a struct. -/
theorem open_agg_any {α : Type} {d : Kd α} {t : TypeId} {fs : Array Field} {G : α → Prop} {r : Reach} {b0 : Nat} {v : Value} {D : DataW H} {ps : List MemPlace} {ts : List TypeId} {ds : List (DataW H)} {j : Nat}
    (hu : P.underlying t = some (.struct fs)) (ho : Opens enc P w d t G) (hv : Value.okWide P w r b0 t v) (h : DataW.Trod enc P w 0 (fun _ => true) true t v D ps)
    (hsz : (DataW.weightsEach P ts ds).all (· ≤ reachBytes) = true) (ht : ts[j]? = some t) (hd : ds[j]? = some D) : ∃ (x : α) (cs : List Value), v = .agg cs.toArray ∧ d.K w x cs ∧ G x := by
  obtain ⟨cs, rfl, _⟩ := okWide_struct hu hv
  obtain ⟨fuel, hf⟩ := h
  obtain ⟨x, hK, hG⟩ := ho fuel _ _ hf (fun n hn => by have := List.all_eq_true.1 hsz n (DataW.weights_mem_each ht hd n hn); simpa using this)
  exact ⟨x, cs.toList, by simp, hK, hG⟩
/-- A parameter that is a slice. -/
theorem open_row_any {α : Type} {d : Kd α} {t e : TypeId} {G : List α → Prop} {r : Reach} {b0 : Nat} {v : Value} {D : DataW H} {ps : List MemPlace} {ts : List TypeId} {ds : List (DataW H)} {j : Nat}
    (hu : P.underlying t = some (.slice e)) (ho : Opens enc P w (Kd.slice e d) t G) (hv : Value.okWide P w r b0 t v) (h : DataW.Trod enc P w 0 (fun _ => true) true t v D ps)
    (hsz : (DataW.weightsEach P ts ds).all (· ≤ reachBytes) = true) (ht : ts[j]? = some t) (hd : ds[j]? = some D) : ∃ (x : List α) (A : Option Addr) (c : Nat), v = .slice A x.length c ∧ x.length ≤ c ∧ d.C w A x.length x ∧ G x := by
  obtain ⟨a, len, cap, rfl⟩ := okWide_slice hu hv
  obtain ⟨fuel, hf⟩ := h
  obtain ⟨x, ⟨A, c, he, hl, hC⟩, hG⟩ := ho fuel _ _ hf (fun n hn => by have := List.all_eq_true.1 hsz n (DataW.weights_mem_each ht hd n hn); simpa using this)
  simp [Value.cells] at he
  obtain ⟨rfl, rfl, rfl⟩ := he
  exact ⟨x, a, cap, rfl, hl, hC, hG⟩
end
end Go.Proofs.YtbndaabjlfdfcaaW.Opening
/- How this law's struct arguments are read (written by a program of this session's: mylaw.py). -/
namespace Go.Proofs.Ytbndaabjlfdfcaa.PRail
open Go.RowKit Go.Proofs.YtbndaabjlfdfcaaW.Opening Go.Proofs.YtbndaabjlfdfcaaW.PrintWords
def GS25 (x : S25) : Prop := (GPair (GInt .i64) (GPair (GInt .i64) (GPair (GSlice 8 (GInt .i64)) (GSlice 1 GBool)))) (x.f0, x.f1, x.f2, x.f3)
instance : Inhabited S25 := ⟨z25⟩
theorem opens25 {H : Type} {enc : TypeId × Value → H} {w : World} : Opens enc Try.prog w k25 25 GS25 :=
  Opens.iso (fun x : S25 => (x.f0, x.f1, x.f2, x.f3)) (fun p => ⟨p.1, p.2.1, p.2.2.1, p.2.2.2⟩) (fun _ => rfl) (Opens.struct Try.underlying25 (by kernel_rfl) (OpensF.cons rfl (by kernel_rfl) (Opens.int Try.underlying3) (OpensF.cons rfl (by kernel_rfl) (Opens.int Try.underlying3) (OpensF.cons rfl (by kernel_rfl) (Opens.slice (B := 8) Try.underlying22 (by kernel_rfl) (by kernel_rfl) (Opens.int Try.underlying3)) (OpensF.one rfl (by kernel_rfl) (Opens.slice (B := 1) Try.underlying23 (by kernel_rfl) (by kernel_rfl) (Opens.bool Try.underlying4)))))))
def GS31 (x : S31) : Prop := (GPair (GInt .i64) (GPair (GInt .i64) (GInt .i64))) (x.f0, x.f1, x.f2)
instance : Inhabited S31 := ⟨z31⟩
theorem opens31 {H : Type} {enc : TypeId × Value → H} {w : World} : Opens enc Try.prog w k31 31 GS31 :=
  Opens.iso (fun x : S31 => (x.f0, x.f1, x.f2)) (fun p => ⟨p.1, p.2.1, p.2.2⟩) (fun _ => rfl) (Opens.struct Try.underlying31 (by kernel_rfl) (OpensF.cons rfl (by kernel_rfl) (Opens.int Try.underlying3) (OpensF.cons rfl (by kernel_rfl) (Opens.int Try.underlying3) (OpensF.one rfl (by kernel_rfl) (Opens.int Try.underlying3)))))
end Go.Proofs.Ytbndaabjlfdfcaa.PRail
/- The law RailLoose: its pure statement, and that out of it the Go code answers true (written by a program of this session's: mylaw.py). -/
namespace Go.Proofs.Ytbndaabjlfdfcaa.PRail
open Go.RowKit Go.Proofs.YtbndaabjlfdfcaaW.Opening Go.Proofs.YtbndaabjlfdfcaaW.PrintWords Go.Proofs.YtbndaabjlfdfcaaW.PrintLast

/-- THE PURE STATEMENT of hinterlandlaw03_RailLoose. -/
def hinterlandlaw03_RailLoose.Pure : Prop := ∀ (a0_0 : Int) (a0_1 : Int) (l0_2 : List Int) (l0_3 : List Bool), GInt .i64 a0_0 → GInt .i64 a0_1 → GSlice 8 (GInt .i64) l0_2 → GSlice 1 GBool l0_3 → ∃ k, hinterlandlaw03_RailLoose.f k a0_0 a0_1 l0_2 l0_3 = some true
theorem hinterlandlaw03_RailLoose.walk (P : hinterlandlaw03_RailLoose.Pure) (a0_0 : Int) (a0_1 : Int) (A0_2 : Option Addr) (c0_2 : Nat) (l0_2 : List Int) (A0_3 : Option Addr) (c0_3 : Nat) (l0_3 : List Bool) (w : World) (hr0_2 : Kd.C (Kd.int .i64) w A0_2 l0_2.length l0_2) (hc0_2 : l0_2.length ≤ c0_2) (hr0_3 : Kd.C Kd.bool w A0_3 l0_3.length l0_3) (hc0_3 : l0_3.length ≤ c0_3) (g0_0 : GInt .i64 a0_0) (g0_1 : GInt .i64 a0_1) (g0_2 : GSlice 8 (GInt .i64) l0_2) (g0_3 : GSlice 1 GBool l0_3) :
    Calls Try.prog 9 #[.agg #[.int .i64 a0_0, .int .i64 a0_1, .slice A0_2 l0_2.length c0_2, .slice A0_3 l0_3.length c0_3]] w fun e w' => e = .returned (.bool true) ∧ Below w.heap.size w w' := by
  obtain ⟨k, h⟩ := P a0_0 a0_1 l0_2 l0_3 g0_0 g0_1 g0_2 g0_3
  refine (hinterlandlaw03_RailLoose.calls k a0_0 a0_1 A0_2 c0_2 l0_2 A0_3 c0_3 l0_3 true w hr0_2 hc0_2 hr0_3 hc0_3 h).mono ?_
  rintro e w' ⟨rfl, hd⟩
  exact ⟨rfl, hd⟩
end Go.Proofs.Ytbndaabjlfdfcaa.PRail
/- What a function with a number of rounds tells from some number of rounds on. -/
namespace Go.Proofs.YtbndaabjlfdfcaaW.Evt
/-- From some number of rounds on, g tells r. -/
def Evt {α : Type} (g : Nat → Option α) (r : α) : Prop := ∃ n, ∀ k, n ≤ k → g k = some r
section
variable {α β : Type}
theorem Evt.const (r : α) : Evt (fun _ => some r) r := ⟨0, fun _ _ => rfl⟩
theorem Evt.of {g : Nat → Option α} {r : α} (h : ∀ k, g k = some r) : Evt g r := ⟨0, fun k _ => h k⟩
theorem Evt.bind {g : Nat → Option α} {h : Nat → α → Option β} {a : α} {r : β} (hg : Evt g a) (hh : Evt (fun k => h k a) r) : Evt (fun k => (g k).bind (h k)) r := by
  obtain ⟨n, hn⟩ := hg
  obtain ⟨m, hm⟩ := hh
  exact ⟨n + m, fun k hk => by show (g k).bind (h k) = some r; rw [hn k (by omega)]; exact hm k (by omega)⟩
theorem Evt.succ {g h : Nat → Option α} {r : α} (hs : ∀ k, g (k + 1) = h k) (hh : Evt h r) : Evt g r := by
  obtain ⟨n, hn⟩ := hh
  refine ⟨n + 1, fun k hk => ?_⟩
  obtain ⟨m, rfl⟩ : ∃ m, k = m + 1 := ⟨k - 1, by omega⟩
  rw [hs]; exact hn m (by omega)
theorem Evt.congr {g h : Nat → Option α} {r : α} (hs : ∀ k, g k = h k) (hh : Evt h r) : Evt g r := by
  obtain ⟨n, hn⟩ := hh
  exact ⟨n, fun k hk => by rw [hs]; exact hn k hk⟩
theorem Evt.some_ {g : Nat → Option α} {r : α} (h : Evt g r) : ∃ k, g k = some r := by
  obtain ⟨n, hn⟩ := h
  exact ⟨n, hn n (Nat.le_refl _)⟩
theorem Evt.ite {c : Prop} [Decidable c] {g h : Nat → Option α} {r : α} (hp : c → Evt g r) (hn : ¬ c → Evt h r) : Evt (fun k => if c then g k else h k) r := by
  by_cases hc : c
  · simp only [if_pos hc]; exact hp hc
  · simp only [if_neg hc]; exact hn hc
theorem Evt.pos {c : Prop} [Decidable c] {g h : Nat → Option α} {r : α} (hc : c) (hp : Evt g r) : Evt (fun k => if c then g k else h k) r := by simp only [if_pos hc]; exact hp
theorem Evt.neg {c : Prop} [Decidable c] {g h : Nat → Option α} {r : α} (hc : ¬ c) (hp : Evt h r) : Evt (fun k => if c then g k else h k) r := by simp only [if_neg hc]; exact hp
theorem Evt.cast {g : Nat → Option α} {r s : α} (h : Evt g r) (e : r = s) : Evt g s := e ▸ h
theorem Evt.unique {g : Nat → Option α} {r s : α} (h : Evt g r) (h' : Evt g s) : r = s := by
  obtain ⟨n, hn⟩ := h
  obtain ⟨m, hm⟩ := h'
  exact Option.some.inj ((hn (n + m) (by omega)).symm.trans (hm (n + m) (by omega)))
end
end Go.Proofs.YtbndaabjlfdfcaaW.Evt
/- What the small functions of rails tell: a piece's ends, a spot turned round, what is known. -/
namespace Go.Proofs.Ytbndaabjlfdfcaa.PRail
open Go.RowKit Go.Proofs.YtbndaabjlfdfcaaW.PrintWords Go.Proofs.YtbndaabjlfdfcaaW.PrintLast Go.Proofs.YtbndaabjlfdfcaaW.Evt
def ends (p : Int) : Int × Int × Int := if p = 0 then (0, 2, 0) else if p = 1 then (1, 3, 0) else if p = 2 then (0, 1, 0) else if p = 3 then (1, 2, 0) else if p = 4 then (2, 3, 0) else if p = 5 then (3, 0, 0) else (0, 0, 1)
theorem rail_Ends_ev (p : Int) : Evt (fun k => rail_Ends.f k p) (ends p) := by
  refine Evt.succ (h := fun _ => some (ends p)) (fun k => ?_) (Evt.const _)
  by_cases h0 : p = 0
  · subst h0; simp only [rail_Ends.f, rail_Ends.j0]; decide +kernel
  by_cases h1 : p = 1
  · subst h1; simp only [rail_Ends.f, rail_Ends.j0]; decide +kernel
  by_cases h2 : p = 2
  · subst h2; simp only [rail_Ends.f, rail_Ends.j0]; decide +kernel
  by_cases h3 : p = 3
  · subst h3; simp only [rail_Ends.f, rail_Ends.j0]; decide +kernel
  by_cases h4 : p = 4
  · subst h4; simp only [rail_Ends.f, rail_Ends.j0]; decide +kernel
  by_cases h5 : p = 5
  · subst h5; simp only [rail_Ends.f, rail_Ends.j0]; decide +kernel
  simp [rail_Ends.f, rail_Ends.j0, ends, *]
theorem known_ev : Evt (fun k => hinterlandlaw03_known.f k) true := by
  refine Evt.bind (h := fun _ bt101 => (if bt101.1 = 0 then (if bt101.2.1 = 2 then (some (bt101.2.2 == 0)) else (some false)) else (some false))) (rail_Ends_ev 0) ?_
  exact Evt.of fun _ => by decide
def fst' (p : Int) : Int := if p = 0 then 0 else if p = 1 then 1 else if p = 2 then 0 else if p = 3 then 1 else if p = 4 then 2 else if p = 5 then 3 else -1
def snd' (p : Int) : Int := if p = 0 then 2 else if p = 1 then 3 else if p = 2 then 1 else if p = 3 then 2 else if p = 4 then 3 else if p = 5 then 0 else -1
theorem first_ev (p : Int) : Evt (fun k => hinterlandref03_first.f k p) (fst' p) := by
  refine Evt.succ (h := fun k => hinterlandref03_first.f (k + 1) p) (fun k => rfl) (Evt.succ (h := fun _ => some (fst' p)) (fun k => ?_) (Evt.const _))
  by_cases h0 : p = 0
  · subst h0; rfl
  by_cases h1 : p = 1
  · subst h1; rfl
  by_cases h2 : p = 2
  · subst h2; rfl
  by_cases h3 : p = 3
  · subst h3; rfl
  by_cases h4 : p = 4
  · subst h4; rfl
  by_cases h5 : p = 5
  · subst h5; rfl
  simp [hinterlandref03_first.f, hinterlandref03_first.j0, hinterlandref03_first.j1, fst', *]
theorem second_ev (p : Int) : Evt (fun k => hinterlandref03_second.f k p) (snd' p) := by
  refine Evt.succ (h := fun k => hinterlandref03_second.f (k + 1) p) (fun k => rfl) (Evt.succ (h := fun _ => some (snd' p)) (fun k => ?_) (Evt.const _))
  by_cases h0 : p = 0
  · subst h0; rfl
  by_cases h1 : p = 1
  · subst h1; rfl
  by_cases h2 : p = 2
  · subst h2; rfl
  by_cases h3 : p = 3
  · subst h3; rfl
  by_cases h4 : p = 4
  · subst h4; rfl
  by_cases h5 : p = 5
  · subst h5; rfl
  simp [hinterlandref03_second.f, hinterlandref03_second.j0, hinterlandref03_second.j1, snd', *]
theorem piece_cases (p : Int) : (p = 0 ∨ p = 1 ∨ p = 2 ∨ p = 3 ∨ p = 4 ∨ p = 5) ∨ (ends p = (0, 0, 1) ∧ fst' p = -1 ∧ snd' p = -1 ∧ ¬ (0 ≤ p ∧ p < 6)) := by
  by_cases h : 0 ≤ p ∧ p < 6
  · left; omega
  · right
    refine ⟨?_, ?_, ?_, h⟩ <;> simp only [ends, fst', snd'] <;> (repeat rw [if_neg (by omega)])
theorem ref_Ends_ev (p : Int) : Evt (fun k => hinterlandref03_Ends.f k p) (ends p) := by
  refine Evt.bind (h := fun k t => (if t < 0 then (some (0, 0, 1)) else ((hinterlandref03_first.f k p).bind fun t105 => ((hinterlandref03_second.f k p).bind fun t106 => (some (t105, t106, 0)))))) (first_ev p) ?_
  refine Evt.ite (fun h => ?_) (fun h => Evt.bind (h := fun k t105 => ((hinterlandref03_second.f k p).bind fun t106 => (some (t105, t106, 0)))) (first_ev p) (Evt.bind (h := fun _ t106 => some (fst' p, t106, 0)) (second_ev p) (Evt.of fun _ => ?_)))
  · rcases piece_cases p with (rfl | rfl | rfl | rfl | rfl | rfl) | ⟨h1, h2, h3, _⟩
    all_goals first | (exact absurd h (by decide)) | skip
    rw [h1]; exact Evt.const _
  · rcases piece_cases p with (rfl | rfl | rfl | rfl | rfl | rfl) | ⟨h1, h2, h3, _⟩
    all_goals first | rfl | skip
    exact absurd h (by rw [h2]; decide)
/-- The other end of a piece: -1 if the side is none of its ends. -/
def oth (p s : Int) : Int := if s < 0 then -1 else if fst' p = s then snd' p else if snd' p = s then fst' p else -1
theorem ref_Other_ev (p s : Int) : Evt (fun k => hinterlandref03_Other.f k p s) (oth p s) := by
  unfold oth
  refine Evt.ite (fun h => ?_) (fun h => ?_)
  · rw [if_pos h]; exact Evt.const _
  rw [if_neg h]
  refine Evt.bind (h := fun k t107 => (if t107 = s then ((hinterlandref03_second.f k p).bind fun t108 => (some t108)) else ((hinterlandref03_second.f k p).bind fun t109 => (if t109 = s then ((hinterlandref03_first.f k p).bind fun t110 => (some t110)) else (some (-1)))))) (first_ev p) ?_
  refine Evt.ite (fun h => ?_) (fun h => ?_)
  · rw [if_pos h]; exact Evt.bind (h := fun _ t => some t) (second_ev p) (Evt.const _)
  rw [if_neg h]
  refine Evt.bind (h := fun k t109 => (if t109 = s then ((hinterlandref03_first.f k p).bind fun t110 => (some t110)) else (some (-1)))) (second_ev p) ?_
  refine Evt.ite (fun h => ?_) (fun h => ?_)
  · rw [if_pos h]; exact Evt.bind (h := fun _ t => some t) (first_ev p) (Evt.const _)
  rw [if_neg h]; exact Evt.const _
def othB (p s : Int) : Int × Bool := if 0 ≤ oth p s then (oth p s, true) else (0, false)
theorem oth_none {p s : Int} (h : ¬ (0 ≤ p ∧ p < 6)) : oth p s = -1 := by
  rcases piece_cases p with (rfl | rfl | rfl | rfl | rfl | rfl) | ⟨_, h2, h3, _⟩
  all_goals first | (exact absurd (by decide) h) | skip
  unfold oth; rw [h2, h3]
  split
  · rfl
  · rw [if_neg (by omega), if_neg (by omega)]
theorem rail_other_ev (p s : Int) : Evt (fun k => rail_other.f k p s) (othB p s) := by
  refine Evt.bind (h := fun _ bt => (if bt.2.2 = 0 then (if s = bt.1 then (some (bt.2.1, true)) else (if s = bt.2.1 then (some (bt.1, true)) else (some (0, false)))) else (some (0, false)))) (rail_Ends_ev p) (Evt.of fun _ => ?_)
  unfold othB
  rcases piece_cases p with (rfl | rfl | rfl | rfl | rfl | rfl) | ⟨h1, h2, h3, h4⟩
  case inr => rw [oth_none h4, h1]; rfl
  all_goals
    by_cases hs : s < 0
    · have e0 : ¬ s = 0 := by omega
      have e1 : ¬ s = 1 := by omega
      have e2 : ¬ s = 2 := by omega
      have e3 : ¬ s = 3 := by omega
      simp [ends, oth, hs, e0, e1, e2, e3]
    by_cases e0 : s = 0
    · subst e0; decide
    by_cases e1 : s = 1
    · subst e1; decide
    by_cases e2 : s = 2
    · subst e2; decide
    by_cases e3 : s = 3
    · subst e3; decide
    · simp [ends, oth, fst', snd', hs, e0, e1, e2, e3, Ne.symm e0, Ne.symm e1, Ne.symm e2, Ne.symm e3]
/-- A spot turned round. -/
def backOf (t p s : Int) : Int × Int × Int × Int := if 0 ≤ oth p s then (t, p, oth p s, 0) else (0, 0, 0, 1)
theorem ref_Back_ev (t p s : Int) : Evt (fun k => hinterlandref03_Back.f k t p s) (backOf t p s) := by
  refine Evt.bind (h := fun _ o => (if o < 0 then (some (0, 0, 0, 1)) else (some (t, p, o, 0)))) (ref_Other_ev p s) (Evt.of fun _ => ?_)
  unfold backOf
  by_cases h : 0 ≤ oth p s
  · rw [if_neg (by omega), if_pos h]
  · rw [if_pos (by omega), if_neg h]
theorem rail_Back_ev (t p s : Int) : Evt (fun k => rail_Back.f k t p s) (backOf t p s) := by
  unfold rail_Back.f
  refine Evt.bind (rail_other_ev p s) (Evt.of fun _ => ?_)
  unfold backOf othB
  by_cases h : 0 ≤ oth p s
  · rw [if_pos h, if_pos h]; rfl
  · rw [if_neg h, if_neg h]; rfl
theorem oth_oth {p s : Int} (h : 0 ≤ oth p s) : oth p (oth p s) = s ∧ 0 ≤ s ∧ s < 4 ∧ oth p s < 4 ∧ 0 ≤ p ∧ p < 6 := by
  rcases piece_cases p with hp | ⟨_, _, _, h4⟩
  case inr => rw [oth_none h4] at h; omega
  by_cases hs : s < 0
  · exfalso; simp [oth, hs] at h
  by_cases h3 : 3 < s
  · exfalso
    rcases hp with rfl | rfl | rfl | rfl | rfl | rfl <;> simp [oth, fst', snd'] at h <;> (repeat split at h) <;> omega
  have : s = 0 ∨ s = 1 ∨ s = 2 ∨ s = 3 := by omega
  rcases hp with rfl | rfl | rfl | rfl | rfl | rfl <;> rcases this with rfl | rfl | rfl | rfl <;> first | decide | exact absurd h (by decide)
end Go.Proofs.Ytbndaabjlfdfcaa.PRail
/- What the functions of rails over tiles tell: which rails are right, copies, sets of pieces, equal lists. -/
namespace Go.Proofs.Ytbndaabjlfdfcaa.PRail
open Go.RowKit Go.Proofs.YtbndaabjlfdfcaaW.PrintWords Go.Proofs.YtbndaabjlfdfcaaW.PrintLast Go.Proofs.YtbndaabjlfdfcaaW.Evt
theorem w64 {x : Int} (h : -9223372036854775808 ≤ x) (h2 : x ≤ 9223372036854775807) : wrap64 x = x := by unfold wrap64; omega
theorem mul_bd {W H : Int} (h1 : 4 ≤ W) (h2 : W ≤ 32) (h3 : 4 ≤ H) (h4 : H ≤ 32) : 16 ≤ W * H ∧ W * H ≤ 1024 :=
  ⟨Int.mul_le_mul (a := 4) (b := 4) (c := W) (d := H) h1 h3 (by omega) (by omega), Int.mul_le_mul (a := W) (b := H) (c := 32) (d := 32) h2 h4 (by omega) (by omega)⟩
def vgood (S : List Int) (D : List Bool) (i : Int) : Bool := decide (0 ≤ rd S i) && (decide (rd S i ≤ 63) && !(rd S i == 0 && rdOf false D i))
def vscan (S : List Int) (D : List Bool) : Nat → Int → Int
  | 0, _ => 0
  | d + 1, i => if vgood S D i = true then vscan S D d (i + 1) else 1
def validOf (W H : Int) (S : List Int) (D : List Bool) : Int :=
  if 4 ≤ W ∧ W ≤ 32 ∧ 4 ≤ H ∧ H ≤ 32 ∧ (S.length : Int) = W * H ∧ (D.length : Int) = W * H then vscan S D S.length 0 else 1
theorem ref_loop (W H : Int) (S : List Int) (D : List Bool) (hl : S.length ≤ 1024) (hd : S.length ≤ D.length) : ∀ (d : Nat) (i : Int), 0 ≤ i → i + d = S.length → Evt (fun k => hinterlandref03_Validate.l0 k i W H S D) (vscan S D d i) := by
  intro d
  induction d with
  | zero =>
    intro i h0 h1
    refine Evt.succ (h := _) (fun k => by rw [hinterlandref03_Validate.l0]) ?_
    exact Evt.neg (by omega) (Evt.const _)
  | succ d ih =>
    intro i h0 h1
    refine Evt.succ (h := _) (fun k => by rw [hinterlandref03_Validate.l0]) ?_
    have hw : wrap64 (i + 1) = i + 1 := w64 (by omega) (by omega)
    have ih' := ih (i + 1) (by omega) (by omega)
    unfold vscan
    refine Evt.pos (by omega) (Evt.pos h0 ?_)
    rw [hw]
    by_cases a : rd S i < 0
    · rw [if_neg (by simp [vgood]; omega)]
      exact Evt.pos a (Evt.const _)
    refine Evt.neg a ?_
    by_cases b : rd S i > 63
    · rw [if_neg (by simp [vgood]; omega)]
      exact Evt.pos b (Evt.const _)
    refine Evt.neg b ?_
    by_cases c : rd S i = 0
    · refine Evt.pos c (Evt.pos (by omega) ?_)
      by_cases e : rdOf false D i = true
      · rw [if_neg (by simp [vgood, c, e])]
        exact Evt.pos e (Evt.const _)
      · rw [if_pos (by simp [vgood, c, e])]
        exact Evt.neg e ih'
    · rw [if_pos (by simp [vgood, c]; omega)]
      exact Evt.neg c ih'
theorem rail_loop (W H : Int) (S : List Int) (D : List Bool) (hl : S.length ≤ 1024) (hd : S.length ≤ D.length) : ∀ (d : Nat) (i : Int), 0 ≤ i → i + d = S.length → Evt (fun k => rail_Validate.l0 k S (S.length : Int) i W H S D) (vscan S D d i) := by
  intro d
  induction d with
  | zero =>
    intro i h0 h1
    refine Evt.succ (h := _) (fun k => by rw [rail_Validate.l0]) ?_
    exact Evt.neg (by omega) (Evt.const _)
  | succ d ih =>
    intro i h0 h1
    refine Evt.succ (h := _) (fun k => by rw [rail_Validate.l0]) ?_
    have hw : wrap64 (i + 1) = i + 1 := w64 (by omega) (by omega)
    have ih' := ih (i + 1) (by omega) (by omega)
    unfold vscan
    refine Evt.pos (by omega) (Evt.pos h0 (Evt.pos (by omega) ?_))
    rw [hw]
    by_cases a : rd S i < 0
    · rw [if_neg (by simp [vgood]; omega)]
      exact Evt.pos a (Evt.const _)
    refine Evt.neg a ?_
    by_cases b : rd S i ≥ 64
    · rw [if_neg (by simp [vgood]; omega)]
      exact Evt.pos b (Evt.const _)
    refine Evt.neg b ?_
    by_cases c : rd S i = 0
    · refine Evt.pos c (Evt.pos (by omega) ?_)
      by_cases e : rdOf false D i = true
      · rw [if_neg (by simp [vgood, c, e])]
        exact Evt.pos e (Evt.const _)
      · rw [if_pos (by simp [vgood, c, e])]
        exact Evt.neg e ih'
    · rw [if_pos (by simp [vgood, c]; omega)]
      exact Evt.neg c ih'
theorem ref_Validate_ev (W H : Int) (S : List Int) (D : List Bool) : Evt (fun k => hinterlandref03_Validate.f k W H S D) (validOf W H S D) := by
  have no : ¬ (4 ≤ W ∧ W ≤ 32 ∧ 4 ≤ H ∧ H ≤ 32 ∧ (S.length : Int) = W * H ∧ (D.length : Int) = W * H) → Evt (fun k => hinterlandref03_Validate.j0 k true W H S D) (validOf W H S D) := fun h => by
    unfold validOf
    rw [if_neg h]
    exact Evt.succ (h := fun _ => some 1) (fun k => by rw [hinterlandref03_Validate.j0]; simp) (Evt.const _)
  unfold hinterlandref03_Validate.f
  refine Evt.ite (fun h => no (by omega)) (fun h1 => Evt.ite (fun h => no (by omega)) (fun h2 => Evt.ite (fun h => no (by omega)) (fun h3 => Evt.ite (fun h => no (by omega)) (fun h4 => ?_))))
  have hm := mul_bd (W := W) (H := H) (by omega) (by omega) (by omega) (by omega)
  rw [w64 (x := W * H) (by omega) (by omega)]
  refine Evt.ite (fun h5 => ?_) (fun h => no (by omega))
  by_cases h6 : (D.length : Int) = W * H
  · refine Evt.succ (h := fun k => hinterlandref03_Validate.l0 k 0 W H S D) (fun k => by rw [hinterlandref03_Validate.j0]; rw [if_neg (by simp [h6])]) ?_
    unfold validOf
    rw [if_pos (by omega)]
    exact ref_loop W H S D (by omega) (by omega) S.length 0 (by omega) (by omega)
  · have e : ((D.length : Int) != W * H) = true := by simp [h6]
    rw [e]
    exact no (by omega)
theorem rail_Validate_ev (W H : Int) (S : List Int) (D : List Bool) : Evt (fun k => rail_Validate.f k W H S D) (validOf W H S D) := by
  have no : ¬ (4 ≤ W ∧ W ≤ 32 ∧ 4 ≤ H ∧ H ≤ 32 ∧ (S.length : Int) = W * H ∧ (D.length : Int) = W * H) → Evt (fun k => rail_Validate.j0 k true W H S D) (validOf W H S D) := fun h => by
    unfold validOf
    rw [if_neg h]
    exact Evt.succ (h := fun _ => some 1) (fun k => by rw [rail_Validate.j0]; simp) (Evt.const _)
  unfold rail_Validate.f
  refine Evt.ite (fun h => no (by omega)) (fun h1 => Evt.ite (fun h => no (by omega)) (fun h2 => Evt.ite (fun h => no (by omega)) (fun h3 => Evt.ite (fun h => no (by omega)) (fun h4 => ?_))))
  have hm := mul_bd (W := W) (H := H) (by omega) (by omega) (by omega) (by omega)
  rw [w64 (x := W * H) (by omega) (by omega)]
  refine Evt.ite (fun h5 => ?_) (fun h => no (by omega))
  by_cases h6 : (D.length : Int) = W * H
  · refine Evt.succ (h := fun k => rail_Validate.l0 k S (S.length : Int) 0 W H S D) (fun k => by rw [rail_Validate.j0]; rw [if_neg (by simp [h6])]) ?_
    unfold validOf
    rw [if_pos (by omega)]
    exact rail_loop W H S D (by omega) (by omega) S.length 0 (by omega) (by omega)
  · have e : ((D.length : Int) != W * H) = true := by simp [h6]
    rw [e]
    exact no (by omega)
theorem vscan_cases (S : List Int) (D : List Bool) : ∀ (d : Nat) (i : Int), vscan S D d i = 0 ∨ vscan S D d i = 1
  | 0, _ => Or.inl rfl
  | d + 1, i => by
    unfold vscan
    split
    · exact vscan_cases S D d (i + 1)
    · exact Or.inr rfl
theorem valid_cases (W H : Int) (S : List Int) (D : List Bool) : validOf W H S D = 0 ∨ validOf W H S D = 1 := by
  unfold validOf
  split
  · exact vscan_cases _ _ _ _
  · exact Or.inr rfl
theorem vscan_zero (S : List Int) (D : List Bool) : ∀ (d : Nat) (i : Int), vscan S D d i = 0 → ∀ j, i ≤ j → j < i + d → vgood S D j = true
  | 0, i, _, j, h1, h2 => by omega
  | d + 1, i, h, j, h1, h2 => by
    unfold vscan at h
    split at h
    · rename_i hg
      by_cases e : j = i
      · rw [e]; exact hg
      · exact vscan_zero S D d (i + 1) h j (by omega) (by omega)
    · omega
theorem vscan_of (S : List Int) (D : List Bool) : ∀ (d : Nat) (i : Int), (∀ j, i ≤ j → j < i + d → vgood S D j = true) → vscan S D d i = 0
  | 0, i, _ => rfl
  | d + 1, i, h => by
    unfold vscan
    rw [if_pos (h i (by omega) (by omega))]
    exact vscan_of S D d (i + 1) fun j h1 h2 => h j (by omega) (by omega)
structure Right (W H : Int) (S : List Int) (D : List Bool) : Prop where
  w4 : 4 ≤ W
  w32 : W ≤ 32
  h4 : 4 ≤ H
  h32 : H ≤ 32
  sl : (S.length : Int) = W * H
  dl : (D.length : Int) = W * H
  at0 : ∀ i : Int, 0 ≤ i → i < S.length → 0 ≤ rd S i
  at63 : ∀ i : Int, 0 ≤ i → i < S.length → rd S i ≤ 63
  atD : ∀ i : Int, 0 ≤ i → i < S.length → rd S i = 0 → rdOf false D i = false
theorem right_of {W H : Int} {S : List Int} {D : List Bool} (h : validOf W H S D = 0) : Right W H S D := by
  unfold validOf at h
  split at h
  · rename_i hc
    have g : ∀ i : Int, 0 ≤ i → i < S.length → vgood S D i = true := fun i h0 h1 => vscan_zero S D S.length 0 h i h0 (by omega)
    refine ⟨hc.1, hc.2.1, hc.2.2.1, hc.2.2.2.1, hc.2.2.2.2.1, hc.2.2.2.2.2, fun i h0 h1 => ?_, fun i h0 h1 => ?_, fun i h0 h1 h2 => ?_⟩
    all_goals have := g i h0 h1; simp [vgood] at this
    · exact this.1
    · exact this.2.1
    · exact this.2.2.resolve_left (fun h3 => h3 h2)
  · omega
theorem Right.valid {W H : Int} {S : List Int} {D : List Bool} (h : Right W H S D) : validOf W H S D = 0 := by
  unfold validOf
  rw [if_pos ⟨h.w4, h.w32, h.h4, h.h32, h.sl, h.dl⟩]
  refine vscan_of S D _ 0 fun j h0 h1 => ?_
  have h2 : j < S.length := by omega
  simp only [vgood, Bool.and_eq_true, decide_eq_true_eq, Bool.not_eq_true', Bool.and_eq_false_iff, beq_eq_false_iff_ne]
  refine ⟨h.at0 j h0 h2, h.at63 j h0 h2, ?_⟩
  by_cases e : rd S j = 0
  · exact Or.inr (h.atD j h0 h2 e)
  · exact Or.inl e
theorem Right.small {W H : Int} {S : List Int} {D : List Bool} (h : Right W H S D) : S.length ≤ 1024 ∧ 16 ≤ S.length ∧ D.length = S.length ∧ W * H = S.length := by
  have := mul_bd h.w4 h.w32 h.h4 h.h32
  have := h.sl
  have := h.dl
  omega
/-- Does a set have a piece? -/
def bitI (x p : Int) : Int := Go.bits .and .i64 (shr .i64 x p) 1
theorem bits_small : ∀ (x : Fin 64) (p : Fin 6), (bitI ((x.val : Nat) : Int) ((p.val : Nat) : Int) = 0 ∨ bitI ((x.val : Nat) : Int) ((p.val : Nat) : Int) = 1) ∧
    (bitI ((x.val : Nat) : Int) ((p.val : Nat) : Int) = 0 → Go.bits .or .i64 ((x.val : Nat) : Int) (shl .i64 1 ((p.val : Nat) : Int)) = wrap64 (((x.val : Nat) : Int) + shl .i64 1 ((p.val : Nat) : Int)) ∧ 0 < wrap64 (((x.val : Nat) : Int) + shl .i64 1 ((p.val : Nat) : Int)) ∧ wrap64 (((x.val : Nat) : Int) + shl .i64 1 ((p.val : Nat) : Int)) ≤ 63 ∧ bitI (wrap64 (((x.val : Nat) : Int) + shl .i64 1 ((p.val : Nat) : Int))) ((p.val : Nat) : Int) = 1 ∧ Go.bits .andNot .i64 (wrap64 (((x.val : Nat) : Int) + shl .i64 1 ((p.val : Nat) : Int))) (shl .i64 1 ((p.val : Nat) : Int)) = ((x.val : Nat) : Int)) ∧
    (bitI ((x.val : Nat) : Int) ((p.val : Nat) : Int) = 1 → Go.bits .andNot .i64 ((x.val : Nat) : Int) (shl .i64 1 ((p.val : Nat) : Int)) = wrap64 (((x.val : Nat) : Int) - shl .i64 1 ((p.val : Nat) : Int)) ∧ 0 ≤ wrap64 (((x.val : Nat) : Int) - shl .i64 1 ((p.val : Nat) : Int)) ∧ wrap64 (((x.val : Nat) : Int) - shl .i64 1 ((p.val : Nat) : Int)) ≤ 63) := by decide +kernel
theorem bits_of {x p : Int} (h0 : 0 ≤ x) (h1 : x ≤ 63) (h2 : 0 ≤ p) (h3 : p < 6) : (bitI x p = 0 ∨ bitI x p = 1) ∧
    (bitI x p = 0 → Go.bits .or .i64 x (shl .i64 1 p) = wrap64 (x + shl .i64 1 p) ∧ 0 < wrap64 (x + shl .i64 1 p) ∧ wrap64 (x + shl .i64 1 p) ≤ 63 ∧ bitI (wrap64 (x + shl .i64 1 p)) p = 1 ∧ Go.bits .andNot .i64 (wrap64 (x + shl .i64 1 p)) (shl .i64 1 p) = x) ∧
    (bitI x p = 1 → Go.bits .andNot .i64 x (shl .i64 1 p) = wrap64 (x - shl .i64 1 p) ∧ 0 ≤ wrap64 (x - shl .i64 1 p) ∧ wrap64 (x - shl .i64 1 p) ≤ 63) := by
  obtain ⟨x, rfl⟩ := Int.eq_ofNat_of_zero_le h0
  obtain ⟨p, rfl⟩ := Int.eq_ofNat_of_zero_le h2
  exact bits_small ⟨x, by omega⟩ ⟨p, by omega⟩
theorem far_ev (W H : Int) (S : List Int) (D : List Bool) : hinterlandlaw03_far.f W H S D = some (decide ((S.length : Int) > 3000 ∨ (D.length : Int) > 3000)) := by
  unfold hinterlandlaw03_far.f
  split
  · rename_i h; simp [h]
  · rename_i h; simp [h]
theorem lies_of {W H : Int} {S : List Int} (D : List Bool) (t p : Int) : hinterlandref03_Lies.f W H S D t p = some (decide (0 ≤ t ∧ t < S.length ∧ 0 ≤ p ∧ p < 6) && (bitI (rd S t) p == 1)) := by
  unfold hinterlandref03_Lies.f
  by_cases h1 : 0 ≤ t
  · rw [if_pos (show t ≥ 0 from h1)]
    by_cases h2 : t < S.length
    · rw [if_pos h2]
      by_cases h3 : 0 ≤ p
      · rw [if_pos (show p ≥ 0 from h3)]
        by_cases h4 : p < 6
        · rw [if_pos h4, if_pos h1, if_pos h3]; simp [h1, h2, h3, h4, bitI]
        · rw [if_neg h4]; simp [h4]
      · rw [if_neg (show ¬ p ≥ 0 from h3)]; simp [h3]
    · rw [if_neg h2]; simp [h2]
  · rw [if_neg (show ¬ t ≥ 0 from h1)]; simp [h1]
theorem tile_of {W H : Int} {S : List Int} {D : List Bool} (hr : Right W H S D) (t : Int) : rail_tile.f W H S D t = some (decide (0 ≤ t ∧ t < S.length)) := by
  unfold rail_tile.f
  have h1 := hr.small
  by_cases h : 0 ≤ t
  · rw [if_pos (show t ≥ 0 from h), w64 (by omega) (by omega), h1.2.2.2]; simp [h]
  · rw [if_neg (show ¬ t ≥ 0 from h)]; simp [h]
theorem first_neg {p : Int} : fst' p < 0 ↔ ¬ (0 ≤ p ∧ p < 6) := by
  rcases piece_cases p with (rfl | rfl | rfl | rfl | rfl | rfl) | ⟨_, h2, _, h3⟩
  all_goals first | decide | skip
  rw [h2]; simp only [h3]; decide
end Go.Proofs.Ytbndaabjlfdfcaa.PRail
/- The loops that gather the spots behind a spot. -/
namespace Go.Proofs.Ytbndaabjlfdfcaa.PRail
open Go.RowKit Go.Proofs.YtbndaabjlfdfcaaW.PrintWords Go.Proofs.YtbndaabjlfdfcaaW.PrintLast Go.Proofs.YtbndaabjlfdfcaaW.Evt
theorem lim6 {n : Nat} (h : n ≤ 24576) : n < 5864062014805 := Nat.lt_of_le_of_lt h (by decide +kernel)
/-- The spots on tile n that are come to over side q, from piece p on (d pieces are left). -/
def tails (S : List Int) (n q : Int) : Nat → Int → List S31
  | 0, _ => []
  | d + 1, p => (if bitI (rd S n) p = 1 ∧ 0 ≤ oth p q then [⟨n, p, oth p q⟩] else []) ++ tails S n q d (p + 1)
theorem follow_loop {W H : Int} {S : List Int} {D : List Bool} {n q : Int} (hn0 : 0 ≤ n) (hn1 : n < S.length) (a b s : Int) (hq : Int.tmod (wrap64 (s + 2)) 4 = q) : ∀ (d : Nat) (p : Int) (acc : List S31), 0 ≤ p → p + d = 6 → acc.length ≤ 6 - d →
    Evt (fun k => hinterlandref03_follow.l0 k n acc p W H S D a b s) (acc ++ tails S n q d p) := by
  intro d
  induction d with
  | zero =>
    intro p acc h0 h1 h2
    refine Evt.succ (h := _) (fun k => by rw [hinterlandref03_follow.l0]) ?_
    refine Evt.neg (by omega) ?_
    unfold tails
    rw [List.append_nil]
    exact Evt.const _
  | succ d ih =>
    intro p acc h0 h1 h2
    refine Evt.succ (h := _) (fun k => by rw [hinterlandref03_follow.l0]) ?_
    refine Evt.pos (by omega) ?_
    rw [hq, w64 (x := p + 1) (by omega) (by omega)]
    refine Evt.bind (ref_Other_ev p q) ?_
    unfold tails
    by_cases c : 0 ≤ oth p q
    · refine Evt.pos c ?_
      rw [lies_of]
      simp only [Option.bind_some]
      have hd : decide (0 ≤ n ∧ n < S.length ∧ 0 ≤ p ∧ p < 6) = true := by simp; omega
      rw [hd, Bool.true_and]
      by_cases hb : bitI (rd S n) p = 1
      · rw [if_pos ⟨hb, c⟩]
        refine Evt.pos (by simp [hb]) (Evt.pos (lim6 (by omega)) ?_)
        have := ih (p + 1) (acc ++ [⟨n, p, oth p q⟩]) (by omega) (by omega) (by rw [List.length_append]; simp; omega)
        rw [List.append_assoc] at this
        exact this
      · rw [if_neg (fun h => hb h.1)]
        exact Evt.neg (by simp [hb]) (ih (p + 1) acc (by omega) (by omega) (by omega))
    · rw [if_neg (fun h => c h.2)]
      exact Evt.neg c (ih (p + 1) acc (by omega) (by omega) (by omega))
theorem next_loop {W H : Int} {S : List Int} {D : List Bool} (hr : Right W H S D) {n q : Int} (hn0 : 0 ≤ n) (hn1 : n < S.length) (a b s : Int) (hq : Int.tmod (wrap64 (s + 2)) 4 = q) : ∀ (d : Nat) (p : Int) (acc : List S31), 0 ≤ p → p + d = 6 → acc.length ≤ 6 - d →
    Evt (fun k => rail_next.l0 k n acc p W H S D a b s) (acc ++ tails S n q d p) := by
  intro d
  induction d with
  | zero =>
    intro p acc h0 h1 h2
    refine Evt.succ (h := _) (fun k => by rw [rail_next.l0]) ?_
    refine Evt.neg (by omega) ?_
    unfold tails
    rw [List.append_nil]
    exact Evt.const _
  | succ d ih =>
    intro p acc h0 h1 h2
    refine Evt.succ (h := _) (fun k => by rw [rail_next.l0]) ?_
    refine Evt.pos (by omega) (Evt.pos hn0 (Evt.pos hn1 (Evt.pos h0 ?_)))
    rw [hq, w64 (x := p + 1) (by omega) (by omega)]
    have hB := (bits_of (hr.at0 n hn0 hn1) (hr.at63 n hn0 hn1) h0 (by omega)).1
    unfold tails
    by_cases hb : bitI (rd S n) p = 0
    · rw [if_neg (fun h => by omega)]
      exact Evt.pos hb (ih (p + 1) acc (by omega) (by omega) (by omega))
    refine Evt.neg hb (Evt.bind (rail_other_ev p q) ?_)
    have hb1 := hB.resolve_left hb
    unfold othB
    by_cases c : 0 ≤ oth p q
    · rw [if_pos c, if_pos ⟨hb1, c⟩]
      refine Evt.pos rfl (Evt.pos (lim6 (by omega)) ?_)
      have := ih (p + 1) (acc ++ [⟨n, p, oth p q⟩]) (by omega) (by omega) (by rw [List.length_append]; simp; omega)
      rw [List.append_assoc] at this
      exact this
    · rw [if_neg c, if_neg (fun h => c h.2)]
      exact Evt.neg (by simp) (ih (p + 1) acc (by omega) (by omega) (by omega))
end Go.Proofs.Ytbndaabjlfdfcaa.PRail
/- The tile beyond a side. -/
namespace Go.Proofs.Ytbndaabjlfdfcaa.PRail
open Go.RowKit Go.Proofs.YtbndaabjlfdfcaaW.PrintWords Go.Proofs.YtbndaabjlfdfcaaW.PrintLast Go.Proofs.YtbndaabjlfdfcaaW.Evt
def dxOf (s : Int) : Int := if s = 0 then 1 else if s = 2 then -1 else 0
def dyOf (s : Int) : Int := if s = 1 then 1 else if s = 3 then -1 else 0
def inside (W H t s : Int) : Bool := decide (0 ≤ t % W + dxOf s ∧ t % W + dxOf s < W ∧ 0 ≤ t / W + dyOf s ∧ t / W + dyOf s < H)
def there (W t s : Int) : Int := (t / W + dyOf s) * W + (t % W + dxOf s)
def beyond (W H t s : Int) : Int := if inside W H t s = true then there W t s else -1
theorem tile_bd {W H t : Int} (h1 : 4 ≤ W) (h2 : W ≤ 32) (h5 : 0 ≤ t) (h6 : t < W * H) : 0 ≤ t % W ∧ t % W < W ∧ 0 ≤ t / W ∧ t / W < H ∧ t = t / W * W + t % W := by
  refine ⟨Int.emod_nonneg _ (by omega), Int.emod_lt_of_pos _ (by omega), Int.ediv_nonneg h5 (by omega), ?_, ?_⟩
  · exact Int.ediv_lt_of_lt_mul (by omega) (by rw [Int.mul_comm]; exact h6)
  · have := Int.mul_ediv_add_emod t W
    rw [Int.mul_comm] at this
    omega
theorem lin_bd {W H x y : Int} (h1 : 4 ≤ W) (h2 : W ≤ 32) (h4 : H ≤ 32) (hx0 : 0 ≤ x) (hx : x < W) (hy0 : 0 ≤ y) (hy : y < H) : 0 ≤ y * W + x ∧ y * W + x < W * H ∧ 0 ≤ y * W ∧ y * W ≤ 1024 := by
  have e1 : 0 ≤ y * W := Int.mul_nonneg hy0 (by omega)
  have e2 : (y + 1) * W ≤ H * W := Int.mul_le_mul_of_nonneg_right (by omega) (by omega)
  have e3 : (y + 1) * W = y * W + W := by rw [Int.add_mul, Int.one_mul]
  have e4 : H * W = W * H := Int.mul_comm _ _
  have e5 : W * H ≤ 32 * 32 := Int.mul_le_mul h2 h4 (by omega) (by omega)
  omega
theorem beyond_lt {W H t s : Int} (h1 : 4 ≤ W) (h2 : W ≤ 32) (h4 : H ≤ 32) (h : inside W H t s = true) : 0 ≤ beyond W H t s ∧ beyond W H t s < W * H := by
  have h' := h
  simp only [inside, decide_eq_true_eq] at h'
  have := lin_bd (x := t % W + dxOf s) (y := t / W + dyOf s) h1 h2 h4 h'.1 h'.2.1 h'.2.2.1 h'.2.2.2
  unfold beyond
  rw [if_pos h]
  exact ⟨this.1, this.2.1⟩
theorem ref_Beyond {W H t s : Int} (h1 : 4 ≤ W) (h2 : W ≤ 32) (h3 : 4 ≤ H) (h4 : H ≤ 32) (h5 : 0 ≤ t) (h6 : t < W * H) (hs0 : 0 ≤ s) (hs : s < 4) : hinterlandref03_Beyond.f W H t s = some (beyond W H t s) := by
  obtain ⟨b1, b2, b3, b4, b5⟩ := tile_bd h1 h2 h5 h6
  have hm := mul_bd h1 h2 h3 h4
  unfold hinterlandref03_Beyond.f
  rw [if_neg (by omega), Int.tmod_eq_emod_of_nonneg h5, Int.tdiv_eq_ediv_of_nonneg h5]
  rw [w64 (x := t / W) (by omega) (by omega), w64 (x := t % W + 1) (by omega) (by omega), w64 (x := t % W - 1) (by omega) (by omega), w64 (x := t / W + 1) (by omega) (by omega), w64 (x := t / W - 1) (by omega) (by omega)]
  unfold beyond inside there
  have key : ∀ (x y : Int), (if x < 0 then (some (-1) : Option Int) else if x ≥ W then some (-1) else if y < 0 then some (-1) else if y ≥ H then some (-1) else some (wrap64 (wrap64 (y * W) + x))) = some (if decide (0 ≤ x ∧ x < W ∧ 0 ≤ y ∧ y < H) = true then y * W + x else -1) := by
    intro x y
    by_cases c : 0 ≤ x ∧ x < W ∧ 0 ≤ y ∧ y < H
    · have := lin_bd h1 h2 h4 c.1 c.2.1 c.2.2.1 c.2.2.2
      rw [if_neg (by omega), if_neg (by omega), if_neg (by omega), if_neg (by omega), if_pos (by simpa using c), w64 (x := y * W) (by omega) (by omega), w64 (by omega) (by omega)]
    · rw [if_neg (c := decide _ = true) (by simpa using c)]
      split
      · rfl
      split
      · rfl
      split
      · rfl
      split
      · rfl
      · omega
  have hs' : s = 0 ∨ s = 1 ∨ s = 2 ∨ s = 3 := by omega
  rcases hs' with rfl | rfl | rfl | rfl
  · rw [if_pos rfl, key]; simp [dxOf, dyOf]
  · rw [if_neg (by decide), if_pos rfl, key]; simp [dxOf, dyOf]
  · rw [if_neg (by decide), if_neg (by decide), if_pos rfl, key]; simp [dxOf, dyOf, Int.sub_eq_add_neg]
  · rw [if_neg (by decide), if_neg (by decide), if_neg (by decide), if_pos rfl, key]; simp [dxOf, dyOf, Int.sub_eq_add_neg]
theorem rail_beside_ev {W H t s : Int} (h1 : 4 ≤ W) (h2 : W ≤ 32) (h3 : 4 ≤ H) (h4 : H ≤ 32) (h5 : 0 ≤ t) (h6 : t < W * H) (hs0 : 0 ≤ s) (hs : s < 4) :
    ∃ n, Evt (fun k => rail_beside.f k W H t s) (n, inside W H t s) ∧ (inside W H t s = true → n = beyond W H t s) := by
  obtain ⟨b1, b2, b3, b4, b5⟩ := tile_bd h1 h2 h5 h6
  have hm := mul_bd h1 h2 h3 h4
  unfold rail_beside.f
  have e1 : Int.tmod t W = t % W := Int.tmod_eq_emod_of_nonneg h5
  have e2 : wrap64 (Int.tdiv t W) = t / W := by rw [Int.tdiv_eq_ediv_of_nonneg h5]; exact w64 (by omega) (by omega)
  rw [e1, e2]
  have key : ∀ (x y : Int), (if x ≥ 0 then (if x < W then (if y ≥ 0 then (some (wrap64 (wrap64 (y * W) + x), decide (y < H)) : Option (Int × Bool)) else some (wrap64 (wrap64 (y * W) + x), false)) else some (wrap64 (wrap64 (y * W) + x), false)) else some (wrap64 (wrap64 (y * W) + x), false)) = some (wrap64 (wrap64 (y * W) + x), decide (0 ≤ x ∧ x < W ∧ 0 ≤ y ∧ y < H)) := by
    intro x y
    by_cases c1 : 0 ≤ x
    · rw [if_pos (show x ≥ 0 from c1)]
      by_cases c2 : x < W
      · rw [if_pos c2]
        by_cases c3 : 0 ≤ y
        · rw [if_pos (show y ≥ 0 from c3)]; simp [c1, c2, c3]
        · rw [if_neg (show ¬ y ≥ 0 from c3)]; simp [c3]
      · rw [if_neg c2]; simp [c2]
    · rw [if_neg (show ¬ x ≥ 0 from c1)]; simp [c1]
  have fin : ∀ (x y : Int), x = t % W + dxOf s → y = t / W + dyOf s → decide (0 ≤ x ∧ x < W ∧ 0 ≤ y ∧ y < H) = inside W H t s ∧ (inside W H t s = true → wrap64 (wrap64 (y * W) + x) = beyond W H t s) := by
    intro x y ex ey
    subst ex ey
    refine ⟨rfl, fun h => ?_⟩
    have h' := h
    simp only [inside, decide_eq_true_eq] at h'
    have := lin_bd (x := t % W + dxOf s) (y := t / W + dyOf s) h1 h2 h4 h'.1 h'.2.1 h'.2.2.1 h'.2.2.2
    unfold beyond there
    rw [if_pos h, w64 (x := (t / W + dyOf s) * W) (by omega) (by omega), w64 (by omega) (by omega)]
  have hs' : s = 0 ∨ s = 1 ∨ s = 2 ∨ s = 3 := by omega
  rcases hs' with rfl | rfl | rfl | rfl
  · have h7 := fin (t % W + 1) (t / W) rfl (by simp [dyOf])
    refine ⟨wrap64 (wrap64 (t / W * W) + (t % W + 1)), Evt.neg (by omega) (Evt.pos rfl ?_), h7.2⟩
    refine Evt.succ (h := _) (fun k => by rw [rail_beside.j0]) ?_
    refine Evt.pos rfl ?_
    rw [show wrap64 (1 - 0) = 1 by decide +kernel, w64 (x := t % W + 1) (by omega) (by omega), key, h7.1]
    exact Evt.const _
  · have h7 := fin (t % W) (t / W + 1) (by simp [dxOf]) rfl
    refine ⟨wrap64 (wrap64 ((t / W + 1) * W) + t % W), Evt.neg (by omega) (Evt.neg (by decide) ?_), h7.2⟩
    refine Evt.succ (h := _) (fun k => by rw [rail_beside.j0]) ?_
    refine Evt.neg (by decide) (Evt.pos rfl ?_)
    rw [show wrap64 (2 - 1) = 1 by decide +kernel, w64 (x := t / W + 1) (by omega) (by omega), key, h7.1]
    exact Evt.const _
  · have h7 := fin (t % W + -1) (t / W) rfl (by simp [dyOf])
    refine ⟨wrap64 (wrap64 (t / W * W) + (t % W + -1)), Evt.neg (by omega) (Evt.neg (by decide) ?_), h7.2⟩
    refine Evt.succ (h := _) (fun k => by rw [rail_beside.j0]) ?_
    refine Evt.pos rfl ?_
    rw [show wrap64 (1 - 2) = -1 by decide +kernel, w64 (x := t % W + -1) (by omega) (by omega), key, h7.1]
    exact Evt.const _
  · have h7 := fin (t % W) (t / W + -1) (by simp [dxOf]) rfl
    refine ⟨wrap64 (wrap64 ((t / W + -1) * W) + t % W), Evt.neg (by omega) (Evt.neg (by decide) ?_), h7.2⟩
    refine Evt.succ (h := _) (fun k => by rw [rail_beside.j0]) ?_
    refine Evt.neg (by decide) (Evt.neg (by decide) (Evt.pos rfl ?_))
    rw [show wrap64 (2 - 3) = -1 by decide +kernel, w64 (x := t / W + -1) (by omega) (by omega), key, h7.1]
    exact Evt.const _
end Go.Proofs.Ytbndaabjlfdfcaa.PRail
/- What lies behind a spot. -/
namespace Go.Proofs.Ytbndaabjlfdfcaa.PRail
open Go.RowKit Go.Proofs.YtbndaabjlfdfcaaW.PrintWords Go.Proofs.YtbndaabjlfdfcaaW.PrintLast Go.Proofs.YtbndaabjlfdfcaaW.Evt
def turn (s : Int) : Int := (s + 2) % 4
def nextOf (W H : Int) (S : List Int) (t s : Int) : List S31 := if inside W H t s = true then tails S (beyond W H t s) (turn s) 6 0 else []
theorem turn_eq {s : Int} (h0 : 0 ≤ s) (h1 : s < 4) : Int.tmod (wrap64 (s + 2)) 4 = turn s := by
  rw [w64 (by omega) (by omega), Int.tmod_eq_emod_of_nonneg (by omega)]; rfl
theorem ref_follow_ev {W H : Int} {S : List Int} {D : List Bool} (hr : Right W H S D) {t s : Int} (p : Int) (h5 : 0 ≤ t) (h6 : t < S.length) (hs0 : 0 ≤ s) (hs : s < 4) : Evt (fun k => hinterlandref03_follow.f k W H S D t p s) (nextOf W H S t s) := by
  have hS := hr.small
  unfold hinterlandref03_follow.f
  rw [ref_Beyond hr.w4 hr.w32 hr.h4 hr.h32 h5 (by omega) hs0 hs]
  simp only [Option.bind_some]
  unfold nextOf
  by_cases c : inside W H t s = true
  · have hb := beyond_lt hr.w4 hr.w32 hr.h32 c
    rw [if_pos c]
    exact Evt.neg (by omega) ((follow_loop (by omega) (by omega) t p s (turn_eq hs0 hs) 6 0 [] (by omega) (by omega) (by simp)).cast (List.nil_append _))
  · rw [if_neg c]
    refine Evt.pos ?_ (Evt.const _)
    unfold beyond; rw [if_neg c]; decide
theorem rail_next_ev {W H : Int} {S : List Int} {D : List Bool} (hr : Right W H S D) {t s : Int} (p : Int) (h5 : 0 ≤ t) (h6 : t < S.length) (hs0 : 0 ≤ s) (hs : s < 4) : Evt (fun k => rail_next.f k W H S D t p s) (nextOf W H S t s) := by
  have hS := hr.small
  unfold rail_next.f
  obtain ⟨n, hn, hn2⟩ := rail_beside_ev hr.w4 hr.w32 hr.h4 hr.h32 h5 (by omega) hs0 hs
  refine Evt.bind hn ?_
  unfold nextOf
  by_cases c : inside W H t s = true
  · have hb := beyond_lt hr.w4 hr.w32 hr.h32 c
    rw [hn2 c]
    rw [if_pos c]
    exact Evt.pos c ((next_loop hr (by omega) (by omega) t p s (turn_eq hs0 hs) 6 0 [] (by omega) (by omega) (by simp)).cast (List.nil_append _))
  · rw [if_neg c]
    exact Evt.neg c (Evt.const _)
/-- The error of a spot. -/
def errOf (S : List Int) (t p s : Int) : Int := if oth p s < 0 then 1 else if 0 ≤ t ∧ t < S.length ∧ bitI (rd S t) p = 1 then 0 else 2
theorem ref_spotError_ev {W H : Int} {S : List Int} {D : List Bool} (t p s : Int) : Evt (fun k => hinterlandref03_spotError.f k W H S D t p s) (errOf S t p s) := by
  unfold hinterlandref03_spotError.f
  refine Evt.bind (ref_Other_ev p s) ?_
  by_cases c : oth p s < 0
  · exact Evt.pos c ((Evt.const _).cast (if_pos c).symm)
  refine Evt.neg c ?_
  have hp := oth_oth (p := p) (s := s) (by omega)
  rw [lies_of]
  simp only [Option.bind_some]
  by_cases e : 0 ≤ t ∧ t < S.length ∧ bitI (rd S t) p = 1
  · refine Evt.pos ?_ ((Evt.const _).cast ((if_neg c).trans (if_pos e)).symm)
    simp [e.2.2]; omega
  · refine Evt.neg ?_ ((Evt.const _).cast ((if_neg c).trans (if_neg e)).symm)
    simp only [Bool.and_eq_true, decide_eq_true_eq, beq_iff_eq, not_and]
    intro h1 h2
    exact e ⟨h1.1, h1.2.1, h2⟩
theorem rail_there_ev {W H : Int} {S : List Int} {D : List Bool} (hr : Right W H S D) (t p s : Int) : Evt (fun k => rail_there.f k W H S D t p s) (errOf S t p s) := by
  unfold rail_there.f
  refine Evt.bind (rail_Back_ev t p s) ?_
  unfold backOf
  by_cases c : 0 ≤ oth p s
  case neg =>
    rw [if_neg c]
    exact Evt.neg (by simp) ((Evt.const _).cast (if_pos (by omega)).symm)
  have hp := oth_oth c
  have c' : ¬ oth p s < 0 := by omega
  rw [if_pos c]
  refine Evt.pos rfl ?_
  rw [tile_of hr]
  simp only [Option.bind_some]
  by_cases ht : 0 ≤ t ∧ t < S.length
  · refine Evt.pos (by simpa using ht) (Evt.pos ht.1 (Evt.pos ht.2 (Evt.pos hp.2.2.2.2.1 ?_)))
    have hB := (bits_of (hr.at0 t ht.1 ht.2) (hr.at63 t ht.1 ht.2) hp.2.2.2.2.1 hp.2.2.2.2.2).1
    by_cases hb : bitI (rd S t) p = 0
    · exact Evt.pos hb ((Evt.const _).cast ((if_neg c').trans (if_neg (fun h => by omega))).symm)
    · exact Evt.neg hb ((Evt.const _).cast ((if_neg c').trans (if_pos ⟨ht.1, ht.2, hB.resolve_left hb⟩)).symm)
  · exact Evt.neg (by simpa using ht) ((Evt.const _).cast ((if_neg c').trans (if_neg (fun h => ht ⟨h.1, h.2.1⟩))).symm)
/-- The first error of some spots. -/
def errs (S : List Int) : List S31 → Int
  | [] => 0
  | x :: l => if errOf S x.f0 x.f1 x.f2 = 0 then errs S l else errOf S x.f0 x.f1 x.f2
theorem rd_T31_cons {l : List S31} {i : Int} (h0 : 0 ≤ i) (h1 : i < l.length) : l.drop i.toNat = rd_T31 l i :: l.drop (i + 1).toNat := by
  have h2 : i.toNat < l.length := by omega
  rw [List.drop_eq_getElem_cons h2, show (i + 1).toNat = i.toNat + 1 by omega]
  unfold rd_T31
  rw [List.getD_eq_getElem?_getD, List.getElem?_eq_getElem h2]
  rfl
theorem all_loop {W H : Int} {S : List Int} {D : List Bool} (hr : Right W H S D) (l : List S31) (hl : l.length ≤ 9223372036854775807) : ∀ (d : Nat) (i : Int), 0 ≤ i → i + d = l.length → Evt (fun k => rail_all.l0 k l (l.length : Int) i W H S D) (errs S (l.drop i.toNat)) := by
  intro d
  induction d with
  | zero =>
    intro i h0 h1
    refine Evt.succ (h := _) (fun k => by rw [rail_all.l0]) ?_
    refine Evt.neg (by omega) ?_
    rw [List.drop_eq_nil_of_le (by omega)]
    exact Evt.const _
  | succ d ih =>
    intro i h0 h1
    refine Evt.succ (h := _) (fun k => by rw [rail_all.l0]) ?_
    refine Evt.pos (by omega) (Evt.pos h0 (Evt.pos (by omega) ?_))
    refine Evt.bind (rail_there_ev hr _ _ _) ?_
    rw [rd_T31_cons h0 (by omega), w64 (x := i + 1) (by omega) (by omega)]
    unfold errs
    by_cases c : errOf S (rd_T31 l i).f0 (rd_T31 l i).f1 (rd_T31 l i).f2 = 0
    · rw [if_pos c]
      exact Evt.pos c (ih (i + 1) (by omega) (by omega))
    · rw [if_neg c]
      exact Evt.neg c (Evt.const _)
theorem rail_all_ev {W H : Int} {S : List Int} {D : List Bool} (hr : Right W H S D) (l : List S31) (hl : l.length ≤ 9223372036854775807) : Evt (fun k => rail_all.f k W H S D l) (errs S l) := by
  unfold rail_all.f
  refine Evt.bind (rail_Validate_ev W H S D) ?_
  rw [hr.valid]
  exact Evt.pos rfl (all_loop hr l hl l.length 0 (by omega) (by omega))
theorem same_spot_loop (l : List S31) (hS : l.length ≤ 9223372036854775807) : ∀ (d : Nat) (i : Int), 0 ≤ i → i + d = l.length → Evt (fun k => api_Spot_33.l0 k l l i) true := by
  intro d
  induction d with
  | zero =>
    intro i h0 h1
    refine Evt.succ (h := _) (fun k => by rw [api_Spot_33.l0]) ?_
    exact Evt.neg (by omega) (Evt.const _)
  | succ d ih =>
    intro i h0 h1
    refine Evt.succ (h := _) (fun k => by rw [api_Spot_33.l0]) ?_
    rw [w64 (x := i + 1) (by omega) (by omega)]
    exact Evt.pos (by omega) (Evt.pos h0 (Evt.pos (by omega) (Evt.neg (by simp) (ih (i + 1) (by omega) (by omega)))))
theorem same_spot (l : List S31) (hS : l.length ≤ 9223372036854775807) : Evt (fun k => api_Spot_33.f k l l) true := by
  unfold api_Spot_33.f
  exact Evt.pos rfl (same_spot_loop l hS l.length 0 (by omega) (by omega))
theorem tails_len (S : List Int) (n q : Int) : ∀ (d : Nat) (p : Int), (tails S n q d p).length ≤ d
  | 0, _ => by simp [tails]
  | d + 1, p => by
    unfold tails
    have := tails_len S n q d (p + 1)
    rw [List.length_append]
    split <;> simp <;> omega
theorem nextOf_len (W H : Int) (S : List Int) (t s : Int) : (nextOf W H S t s).length ≤ 6 := by
  unfold nextOf
  split
  · exact tails_len _ _ _ 6 0
  · simp
end Go.Proofs.Ytbndaabjlfdfcaa.PRail
/- The spots that lead nowhere, piece by piece. -/
namespace Go.Proofs.Ytbndaabjlfdfcaa.PRail
open Go.RowKit Go.Proofs.YtbndaabjlfdfcaaW.PrintWords Go.Proofs.YtbndaabjlfdfcaaW.PrintLast Go.Proofs.YtbndaabjlfdfcaaW.Evt
def sideL (W H : Int) (S : List Int) (n p s : Int) : List S31 := if nextOf W H S n s = [] then [⟨n, p, s⟩] else []
def block (W H : Int) (S : List Int) (n p : Int) : List S31 :=
  if bitI (rd S n) p = 1 then sideL W H S n p (mn (ends p).1 (ends p).2.1) ++ sideL W H S n p (mx (ends p).1 (ends p).2.1) else []
def restL (W H : Int) (S : List Int) : Nat → Int → List S31
  | 0, _ => []
  | c + 1, m => block W H S (m / 6) (m % 6) ++ restL W H S c (m + 1)
theorem sideL_len (W H : Int) (S : List Int) (n p s : Int) : (sideL W H S n p s).length ≤ 1 := by unfold sideL; split <;> simp
theorem block_len (W H : Int) (S : List Int) (n p : Int) : (block W H S n p).length ≤ 2 := by
  unfold block
  split
  · have h1 := sideL_len W H S n p (mn (ends p).1 (ends p).2.1)
    have h2 := sideL_len W H S n p (mx (ends p).1 (ends p).2.1)
    rw [List.length_append]; omega
  · simp
theorem len_zero {l : List S31} : ((l.length : Int) = 0) ↔ l = [] := by
  constructor
  · intro h; exact List.length_eq_zero_iff.1 (by omega)
  · intro h; rw [h]; rfl
theorem mnmx {p : Int} (h0 : 0 ≤ p) (h1 : p < 6) : (0 ≤ mn (ends p).1 (ends p).2.1 ∧ mn (ends p).1 (ends p).2.1 < 4) ∧ (0 ≤ mx (ends p).1 (ends p).2.1 ∧ mx (ends p).1 (ends p).2.1 < 4) := by
  have : p = 0 ∨ p = 1 ∨ p = 2 ∨ p = 3 ∨ p = 4 ∨ p = 5 := by omega
  rcases this with rfl | rfl | rfl | rfl | rfl | rfl <;> decide
theorem rail_side {W H : Int} {S : List Int} {D : List Bool} (hr : Right W H S D) {n p : Int} (hn0 : 0 ≤ n) (hn1 : n < S.length) (x7 : Int) (l48 : List Int) (L : List Int) (x22 x23 x28 : Int) (j : Int) (hj0 : 0 ≤ j) (hj : j < l48.length) (hL : l48.length = 2) (hs0 : 0 ≤ rd l48 j) (hs : rd l48 j < 4)
    (acc : List S31) (hacc : acc.length ≤ 24575) {r : List S31 × Int} (h : Evt (fun k => rail_Loose.l2 k (acc ++ sideL W H S n p (rd l48 j)) n x7 p L x22 x23 x28 l48 2 (j + 1) W H S D) r) :
    Evt (fun k => rail_Loose.l2 k acc n x7 p L x22 x23 x28 l48 2 j W H S D) r := by
  refine Evt.succ (h := _) (fun k => by rw [rail_Loose.l2]) ?_
  refine Evt.pos (by omega) (Evt.pos hj0 (Evt.pos hj (Evt.bind (rail_next_ev hr p hn0 hn1 hs0 hs) ?_)))
  rw [w64 (x := j + 1) (by omega) (by omega)]
  unfold sideL at h
  by_cases c : nextOf W H S n (rd l48 j) = []
  · rw [if_pos c] at h
    exact Evt.pos (len_zero.2 c) (Evt.pos (lim6 (by omega)) h)
  · rw [if_neg c, List.append_nil] at h
    exact Evt.neg (fun e => c (len_zero.1 e)) h
theorem rail_from {W H : Int} {S : List Int} {D : List Bool} (hr : Right W H S D) : ∀ (c : Nat) (n p : Int) (acc : List S31), 0 ≤ n → n < S.length → 0 ≤ p → p < 6 → c + p + 6 * n = 6 * S.length → acc.length ≤ 12 * n + 2 * p →
    Evt (fun k => rail_Loose.l1 k acc n (rd S n) S (S.length : Int) n p W H S D) (acc ++ restL W H S c (6 * n + p), 0) := by
  intro c
  induction c with
  | zero => intro n p acc h0 h1 h2 h3 h4; omega
  | succ c ih =>
    intro n p acc h0 h1 h2 h3 h4 h5
    have hS := hr.small
    have cont : ∀ acc' : List S31, acc'.length ≤ 12 * n + 2 * (p + 1) → Evt (fun k => rail_Loose.l1 k acc' n (rd S n) S (S.length : Int) n (p + 1) W H S D) (acc' ++ restL W H S c (6 * n + p + 1), 0) := by
      intro acc' ha
      by_cases hp : p + 1 < 6
      · have := ih n (p + 1) acc' h0 h1 (by omega) hp (by omega) ha
        rw [show 6 * n + (p + 1) = 6 * n + p + 1 by omega] at this
        exact this
      · refine Evt.succ (h := _) (fun k => by rw [rail_Loose.l1]) ?_
        refine Evt.neg hp ?_
        rw [w64 (x := n + 1) (by omega) (by omega)]
        refine Evt.succ (h := _) (fun k => by rw [rail_Loose.l0]) ?_
        by_cases hn : n + 1 < S.length
        · refine Evt.pos hn (Evt.pos (by omega) (Evt.pos hn ?_))
          have := ih (n + 1) 0 acc' (by omega) hn (by omega) (by omega) (by omega) (by omega)
          rw [show 6 * (n + 1) + 0 = 6 * n + p + 1 by omega] at this
          exact this
        · refine Evt.neg hn ?_
          have : c = 0 := by omega
          subst this
          exact (Evt.const _).cast (by rw [restL, List.append_nil])
    refine Evt.succ (h := _) (fun k => by rw [rail_Loose.l1]) ?_
    refine Evt.pos h3 (Evt.pos h2 ?_)
    rw [w64 (x := p + 1) (by omega) (by omega)]
    have e1 : (6 * n + p) / 6 = n := by omega
    have e2 : (6 * n + p) % 6 = p := by omega
    have er : restL W H S (c + 1) (6 * n + p) = block W H S n p ++ restL W H S c (6 * n + p + 1) := by rw [restL, e1, e2]
    rw [er]
    have hB := (bits_of (hr.at0 n h0 h1) (hr.at63 n h0 h1) h2 h3).1
    by_cases hb : bitI (rd S n) p = 0
    · refine Evt.pos hb ?_
      rw [show block W H S n p = [] from if_neg (by omega), List.nil_append]
      exact cont acc (by omega)
    · refine Evt.neg hb (Evt.bind (rail_Ends_ev p) ?_)
      simp only [Option.bind_some]
      have hm := mnmx h2 h3
      rw [show block W H S n p = sideL W H S n p (mn (ends p).1 (ends p).2.1) ++ sideL W H S n p (mx (ends p).1 (ends p).2.1) from if_pos (hB.resolve_left hb)]
      have hl1 := sideL_len W H S n p (mn (ends p).1 (ends p).2.1)
      have hl2 := sideL_len W H S n p (mx (ends p).1 (ends p).2.1)
      generalize mn (ends p).1 (ends p).2.1 = a at hm hl1 ⊢
      generalize mx (ends p).1 (ends p).2.1 = b at hm hl2 ⊢
      refine rail_side hr h0 h1 (rd S n) [a, b] S (S.length : Int) n p 0 (by omega) (by simp) rfl hm.1.1 hm.1.2 acc (by omega) ?_
      refine rail_side hr h0 h1 (rd S n) [a, b] S (S.length : Int) n p 1 (by omega) (by simp) rfl hm.2.1 hm.2.2 _ (by rw [List.length_append]; show acc.length + (sideL W H S n p a).length ≤ _; omega) ?_
      refine Evt.succ (h := _) (fun k => by rw [rail_Loose.l2]) ?_
      refine Evt.neg (by omega) ?_
      rw [w64 (x := p + 1) (by omega) (by omega)]
      have := cont (acc ++ sideL W H S n p a ++ sideL W H S n p b) (by rw [List.length_append, List.length_append]; omega)
      rw [List.append_assoc, List.append_assoc] at this
      rw [List.append_assoc]
      exact this
theorem rail_Loose_ev {W H : Int} {S : List Int} {D : List Bool} (hr : Right W H S D) : Evt (fun k => rail_Loose.f k W H S D) (restL W H S (6 * S.length) 0, 0) := by
  have hS := hr.small
  unfold rail_Loose.f
  refine Evt.bind (rail_Validate_ev W H S D) ?_
  rw [hr.valid]
  refine Evt.pos rfl ?_
  refine Evt.succ (h := _) (fun k => by rw [rail_Loose.l0]) ?_
  refine Evt.pos (by omega) (Evt.pos (by omega) (Evt.pos (by omega) ?_))
  have := rail_from hr (6 * S.length) 0 0 [] (by omega) (by omega) (by omega) (by omega) (by omega) (by simp)
  rw [List.nil_append] at this
  exact this
def hasB (p s : Int) : Bool := decide (0 ≤ s) && (fst' p == s || snd' p == s)
theorem has_ev (p s : Int) : Evt (fun k => hinterlandref03_Has.f k p s) (hasB p s) := by
  unfold hinterlandref03_Has.f
  by_cases h : 0 ≤ s
  · refine Evt.pos h (Evt.bind (first_ev p) ?_)
    by_cases c : fst' p = s
    · exact Evt.pos c ((Evt.const _).cast (by simp [hasB, h, c]))
    · exact Evt.neg c (Evt.bind (second_ev p) ((Evt.const _).cast (by simp [hasB, h, c])))
  · exact Evt.neg h ((Evt.const _).cast (by simp [hasB, h]))
def sideR (W H : Int) (S : List Int) (n p s : Int) : List S31 := if bitI (rd S n) p = 1 then (if hasB p s = true then sideL W H S n p s else []) else []
theorem ref_side {W H : Int} {S : List Int} {D : List Bool} (hr : Right W H S D) {n p s : Int} (hn0 : 0 ≤ n) (hn1 : n < S.length) (hp0 : 0 ≤ p) (hp1 : p < 6) (hs0 : 0 ≤ s) (hs : s < 4)
    (acc : List S31) (hacc : acc.length ≤ 24575) {r : List S31 × Int} (h : Evt (fun k => hinterlandref03_Loose.l0 k (acc ++ sideR W H S n p s) (24 * n + 4 * p + s + 1) W H S D) r) :
    Evt (fun k => hinterlandref03_Loose.l0 k acc (24 * n + 4 * p + s) W H S D) r := by
  have hS := hr.small
  refine Evt.succ (h := _) (fun k => by rw [hinterlandref03_Loose.l0]) ?_
  rw [w64 (x := (S.length : Int) * 24) (by omega) (by omega), w64 (x := 24 * n + 4 * p + s + 1) (by omega) (by omega)]
  refine Evt.pos (by omega) ?_
  have e : hinterlandref03_spotOf.f (24 * n + 4 * p + s) = some (n, p, s) := by
    unfold hinterlandref03_spotOf.f
    rw [Int.tdiv_eq_ediv_of_nonneg (by omega), Int.tdiv_eq_ediv_of_nonneg (by omega), w64 (x := (24 * n + 4 * p + s) / 24) (by omega) (by omega), w64 (x := (24 * n + 4 * p + s) / 4) (by omega) (by omega), Int.tmod_eq_emod_of_nonneg (by omega), Int.tmod_eq_emod_of_nonneg (by omega)]
    rw [show (24 * n + 4 * p + s) / 24 = n by omega, show (24 * n + 4 * p + s) / 4 % 6 = p by omega, show (24 * n + 4 * p + s) % 4 = s by omega]
  rw [e]
  simp only [Option.bind_some]
  rw [lies_of]
  simp only [Option.bind_some]
  have hd : decide (0 ≤ n ∧ n < S.length ∧ 0 ≤ p ∧ p < 6) = true := by simp; omega
  rw [hd, Bool.true_and]
  unfold sideR at h
  by_cases hb : bitI (rd S n) p = 1
  · rw [if_pos hb] at h
    refine Evt.pos (by simp [hb]) (Evt.bind (has_ev p s) ?_)
    by_cases hh : hasB p s = true
    · rw [if_pos hh] at h
      refine Evt.pos hh (Evt.bind (ref_follow_ev hr p hn0 hn1 hs0 hs) ?_)
      unfold sideL at h
      by_cases c : nextOf W H S n s = []
      · rw [if_pos c] at h
        exact Evt.pos (len_zero.2 c) (Evt.pos (lim6 (by omega)) h)
      · rw [if_neg c, List.append_nil] at h
        exact Evt.neg (fun e => c (len_zero.1 e)) h
    · rw [if_neg hh, List.append_nil] at h
      exact Evt.neg hh h
  · rw [if_neg hb, List.append_nil] at h
    exact Evt.neg (by simp [hb]) h
theorem sides {W H : Int} {S : List Int} {n p : Int} (hp0 : 0 ≤ p) (hp1 : p < 6) : sideR W H S n p 0 ++ (sideR W H S n p 1 ++ (sideR W H S n p 2 ++ sideR W H S n p 3)) = block W H S n p := by
  unfold block sideR
  by_cases hb : bitI (rd S n) p = 1
  · rw [if_pos hb, if_pos hb, if_pos hb, if_pos hb, if_pos hb]
    have : p = 0 ∨ p = 1 ∨ p = 2 ∨ p = 3 ∨ p = 4 ∨ p = 5 := by omega
    rcases this with rfl | rfl | rfl | rfl | rfl | rfl <;> simp [hasB, fst', snd', ends, mn, mx]
  · rw [if_neg hb, if_neg hb, if_neg hb, if_neg hb, if_neg hb]; rfl
theorem sideR_len (W H : Int) (S : List Int) (n p s : Int) : (sideR W H S n p s).length ≤ 1 := by
  unfold sideR
  split
  · split
    · exact sideL_len _ _ _ _ _ _
    · simp
  · simp
theorem ref_from {W H : Int} {S : List Int} {D : List Bool} (hr : Right W H S D) : ∀ (c : Nat) (m : Int) (acc : List S31), 0 ≤ m → c + m = 6 * S.length → acc.length ≤ 2 * m →
    Evt (fun k => hinterlandref03_Loose.l0 k acc (4 * m) W H S D) (acc ++ restL W H S c m, 0) := by
  intro c
  have hS := hr.small
  induction c with
  | zero =>
    intro m acc h0 h1 h2
    refine Evt.succ (h := _) (fun k => by rw [hinterlandref03_Loose.l0]) ?_
    rw [w64 (x := (S.length : Int) * 24) (by omega) (by omega)]
    exact Evt.neg (by omega) ((Evt.const _).cast (by rw [restL, List.append_nil]))
  | succ c ih =>
    intro m acc h0 h1 h2
    have hp0 : 0 ≤ m % 6 := by omega
    have hp1 : m % 6 < 6 := by omega
    have hn0 : 0 ≤ m / 6 := by omega
    have hn1 : m / 6 < S.length := by omega
    have em : 4 * m = 24 * (m / 6) + 4 * (m % 6) + 0 := by omega
    have l0 := sideR_len W H S (m / 6) (m % 6) 0
    have l1 := sideR_len W H S (m / 6) (m % 6) 1
    have l2 := sideR_len W H S (m / 6) (m % 6) 2
    have hbl := block_len W H S (m / 6) (m % 6)
    rw [em]
    refine ref_side hr hn0 hn1 hp0 hp1 (by omega) (by omega) acc (by omega) ?_
    rw [show 24 * (m / 6) + 4 * (m % 6) + 0 + 1 = 24 * (m / 6) + 4 * (m % 6) + 1 by omega]
    refine ref_side hr hn0 hn1 hp0 hp1 (by omega) (by omega) _ (by rw [List.length_append]; omega) ?_
    rw [show 24 * (m / 6) + 4 * (m % 6) + 1 + 1 = 24 * (m / 6) + 4 * (m % 6) + 2 by omega]
    refine ref_side hr hn0 hn1 hp0 hp1 (by omega) (by omega) _ (by rw [List.length_append, List.length_append]; omega) ?_
    rw [show 24 * (m / 6) + 4 * (m % 6) + 2 + 1 = 24 * (m / 6) + 4 * (m % 6) + 3 by omega]
    refine ref_side hr hn0 hn1 hp0 hp1 (by omega) (by omega) _ (by rw [List.length_append, List.length_append, List.length_append]; omega) ?_
    rw [show 24 * (m / 6) + 4 * (m % 6) + 3 + 1 = 4 * (m + 1) by omega]
    have hs := sides (W := W) (H := H) (S := S) (n := m / 6) hp0 hp1
    have := ih (m + 1) (acc ++ block W H S (m / 6) (m % 6)) (by omega) (by omega) (by rw [List.length_append]; omega)
    rw [restL, ← List.append_assoc]
    rw [show acc ++ sideR W H S (m / 6) (m % 6) 0 ++ sideR W H S (m / 6) (m % 6) 1 ++ sideR W H S (m / 6) (m % 6) 2 ++ sideR W H S (m / 6) (m % 6) 3 = acc ++ block W H S (m / 6) (m % 6) by rw [← hs]; simp only [List.append_assoc]]
    exact this
theorem ref_Loose_ev {W H : Int} {S : List Int} {D : List Bool} (hr : Right W H S D) : Evt (fun k => hinterlandref03_Loose.f k W H S D) (restL W H S (6 * S.length) 0, 0) := by
  unfold hinterlandref03_Loose.f
  refine Evt.bind (ref_Validate_ev W H S D) ?_
  rw [hr.valid]
  refine Evt.pos rfl ?_
  have := ref_from hr (6 * S.length) 0 [] (by omega) (by omega) (by simp)
  rw [List.nil_append] at this
  exact this
theorem restL_len (W H : Int) (S : List Int) : ∀ (c : Nat) (m : Int), (restL W H S c m).length ≤ 2 * c
  | 0, _ => by simp [restL]
  | c + 1, m => by
    have h1 := restL_len W H S c (m + 1)
    have h2 := block_len W H S (m / 6) (m % 6)
    rw [restL, List.length_append]; omega
end Go.Proofs.Ytbndaabjlfdfcaa.PRail
/- RailLoose: the spots that lead nowhere, for all rails: the pure statement. -/
namespace Go.Proofs.Ytbndaabjlfdfcaa.Pure
open Go.RowKit Go.Proofs.Ytbndaabjlfdfcaa.PRail Go.Proofs.YtbndaabjlfdfcaaW.Opening Go.Proofs.YtbndaabjlfdfcaaW.PrintWords Go.Proofs.YtbndaabjlfdfcaaW.PrintLast Go.Proofs.YtbndaabjlfdfcaaW.Evt
theorem RailLoose : hinterlandlaw03_RailLoose.Pure := by
  intro W H S D _ _ _ _
  apply Evt.some_
  unfold hinterlandlaw03_RailLoose.f
  rw [far_ev]
  have fin : Evt (fun k => (hinterlandlaw03_known.f k).bind fun t => some t) true := Evt.bind known_ev (Evt.const _)
  refine Evt.ite (fun _ => fin) (fun _ => ?_)
  rcases valid_cases W H S D with hv | hv
  · have hr := right_of hv
    have hS := hr.small
    have hl := restL_len W H S (6 * S.length) 0
    exact Evt.bind (ref_Loose_ev hr) (Evt.bind (rail_Loose_ev hr) (Evt.pos rfl (Evt.bind (same_spot _ (by show (restL W H S (6 * S.length) 0).length ≤ _; omega)) (Evt.pos rfl fin))))
  · have e1 : Evt (fun k => hinterlandref03_Loose.f k W H S D) ([], 1) := by
      unfold hinterlandref03_Loose.f
      refine Evt.bind (ref_Validate_ev W H S D) ?_
      rw [hv]
      exact Evt.neg (by decide) (Evt.const _)
    have e2 : Evt (fun k => rail_Loose.f k W H S D) ([], 1) := by
      unfold rail_Loose.f
      refine Evt.bind (rail_Validate_ev W H S D) ?_
      rw [hv]
      exact Evt.neg (by decide) (Evt.const _)
    exact Evt.bind e1 (Evt.bind e2 (Evt.pos rfl (Evt.bind (same_spot _ (by simp)) (Evt.pos rfl fin))))
end Go.Proofs.Ytbndaabjlfdfcaa.Pure
/- The law RailLoose: it answers true for every input, and its arguments read afterwards as they did. The row, out of the pure statement and the walk (written by a program of this session's: mylaw.py). -/
namespace Go.Proofs.Ytbndaabjlfdfcaa.railLoose
open Go.ChangeShapes Go.WideShapes Go.ChangeAt Go.RowKit Go.Proofs.YtbndaabjlfdfcaaW.Opening Go.Proofs.Ytbndaabjlfdfcaa.PRail
open Go.Proofs.YtbndaabjlfdfcaaW.PrintWords (Kd)
open Go.ChangeMaps (open_string shut_string)
set_option linter.unusedVariables false
theorem own : ownKnob Try.prog.godebug = none := by kernel_rfl
theorem laidOut : laidOutB Try.prog = true := by kernel_rfl
set_option maxRecDepth 100000 in
set_option maxHeartbeats 1000000 in
theorem lifted (os : Os) (started : os.Started) (H : Type) (enc : TypeId × Value → H) :
    ReturnsInHanded {} Try.checked os 9 .any (Rows.railLooseSpec.pre6 enc Try.prog Try.f9 Rows.railLooseRow.domain false) (Rows.railLooseSpec.post enc Try.prog Try.f9 false true false false) := by
  refine returnsInHanded_of_change_sized (C := Try.checked) own started (by kernel_rfl) Try.func9
    (ChangeSpec.witness6 (enc := enc) (C := Try.checked) false ⟨#[], #[.agg #[.int .i64 0, .int .i64 0, .slice none 0 0, .slice none 0 0]], []⟩ 8 (by kernel_rfl) (by kernel_rfl) (by kernel_rfl) (by kernel_rfl)) ?_
  intro W base args ds gs before hval0 hW hcnd hsz0 _
  have hsz : (DataW.weightsEach Try.prog (Try.f9.params.toList ++ Rows.railLooseSpec.plain.varTypes Try.prog) (ds ++ gs)).all (· ≤ reachBytes) = true := hsz0
  have hval : ∀ (j : Nat) t v, Try.f9.params[j]? = some t → args[j]? = some v → Value.okWide Try.prog W .any base t v := hval0
  have hW' := hW
  obtain ⟨p, q, hA0, hV, rfl, hfz, hnd⟩ := hW
  have hA : DataW.TrodAll enc Try.prog W 0 (fun _ => true) true Try.f9.params.toList args.toList ds p := hA0
  rw [Try.params9] at hA hval hsz
  obtain ⟨v0, vs0, d0, ds0, p0, q0, hargs, rfl, rfl, h0, r0⟩ := trodAll_cons hA
  obtain ⟨rfl, rfl, rfl⟩ := trodAll_nil r0
  obtain rfl : args = #[v0] := by cases args; simp_all
  obtain ⟨rfl, rfl⟩ := trodVars_none hV
  have k0 := h0
  have lt0 : ∀ x ∈ p0, x.block < W.heap.size := by obtain ⟨m, hm⟩ := k0; exact DataW.trod_lt m _ _ _ hm
  obtain ⟨x0, cs0, rfl, K0, g0⟩ := open_agg_any (j := 0) (t := 25) Try.underlying25 opens25 (hval 0 25 v0 rfl rfl) h0 hsz rfl rfl
  obtain ⟨a0_0, a0_1, l0_2, l0_3⟩ := x0
  obtain ⟨_, _, rfl, rfl, ⟨_, _, rfl, rfl, ⟨_, _, rfl, ⟨A0_2, c0_2, rfl, hc0_2, hr0_2⟩, ⟨A0_3, c0_3, rfl, hc0_3, hr0_3⟩⟩⟩⟩ := K0
  obtain ⟨g0_0, ⟨g0_1, ⟨g0_2, g0_3⟩⟩⟩ := g0
  clear hA0 hval0 hsz0 hsz
  refine (hinterlandlaw03_RailLoose.walk Pure.RailLoose a0_0 a0_1 A0_2 c0_2 l0_2 A0_3 c0_3 l0_3 W hr0_2 hc0_2 hr0_3 hc0_3 g0_0 g0_1 g0_2 g0_3).mono fun e W' ⟨he, bel⟩ => ?_
  subst he
  exact ⟨_, rfl, _, _, _, [], _, [], hW', trodAll_mk1 (shut_bool Try.underlying4 _), (trodAll_cons_mk (Below.trod laidOut (by kernel_rfl) (of_decide_eq_true (by kernel_rfl)) k0 bel lt0) trodAll_mk0), rfl, bel.frame _, fun h => by cases h⟩
theorem over : Rows.railLooseRow.holds Try.pinned (OpenSpec.ofChange Rows.railLooseSpec) :=
  OpenClaim.holds_of_wide 9 Try.f9 rfl rfl rfl rfl rfl rfl rfl ⟨rfl, rfl, rfl, rfl, rfl⟩ rfl rfl rfl rfl rfl (by kernel_rfl) Try.func9 (by kernel_rfl)
    (of_decide_eq_true (by kernel_rfl)) (by unfold Func.isWrapper; first | (rw [if_pos (by decide +kernel)]; kernel_rfl) | (rw [if_neg (by decide +kernel)]; exact ⟨rfl, rfl⟩))
    (fun os started H enc _ => lifted os started H enc)
theorem proved : Rows.RailLooseSaid := over
#print axioms proved
end Go.Proofs.Ytbndaabjlfdfcaa.railLoose
namespace Go.Proofs.Ytbndaabjlfdfcaa
/-- The row, under a short name, for the claim. -/
theorem railLoose_holds : Rows.RailLooseSaid := railLoose.proved
end Go.Proofs.Ytbndaabjlfdfcaa
