/- The law CargoTransfers: it answers true for every input, and its arguments read afterwards as they did. The row, out of the pure statement and the walk (written by a program of this session's: mylaw.py). -/
import Derived.Test.YtmphplpfgjcpiaaRows
import Derived.Test.YtmphplpfgjcpiaaWWords
import Derived.SizedLaws
import Derived.ChangeSlices
import Derived.Deep.Slices
import Derived.Test.YtmphplpfgjcpiaaPCargox0
import Derived.Test.YtmphplpfgjcpiaaPCargoxF8
import Derived.Test.YtmphplpfgjcpiaaPCargoxF68
import Derived.Test.YtmphplpfgjcpiaaPCargoxF69
import Derived.Test.YtmphplpfgjcpiaaPCargoxF17
import Derived.Test.YtmphplpfgjcpiaaPCargoxF18
import Derived.Test.YtmphplpfgjcpiaaPCargoxF19
import Derived.Test.YtmphplpfgjcpiaaPCargoxF21
import Derived.Test.YtmphplpfgjcpiaaPCargoxF45
import Derived.Test.YtmphplpfgjcpiaaPCargoxF53
import Derived.Test.YtmphplpfgjcpiaaPCargoxF54
import Derived.Test.YtmphplpfgjcpiaaPCargoxF29
import Derived.Test.YtmphplpfgjcpiaaPCargoxF30
import Derived.Test.YtmphplpfgjcpiaaPCargoxF20
import Derived.Test.YtmphplpfgjcpiaaPCargoxF43
import Derived.Test.YtmphplpfgjcpiaaPCargoxF51
import Derived.Test.YtmphplpfgjcpiaaPCargoxF52
import Derived.WalkKit
import Derived.ProofKit
import Derived.OpenShut
import Derived.ShutString
import Derived.ChangeOld
import Derived.Below
/- How the argument of a law, of whatever kind, is read: a value of the kind's Lean type, its cells, and what is known of it. -/
namespace Go.Proofs.YtmphplpfgjcpiaaW.Opening
open Go.ChangeShapes Go.WideShapes Go.Deep Go.Proofs.YtmphplpfgjcpiaaW.PrintWords

def GInt (k : IntKind) (n : Int) : Prop := (Lit.int k n).wf = true
def GBool (_ : Bool) : Prop := True
def GStr (s : ByteArray) : Prop := s.size ≤ 140737488351232
def GSlice {α : Type} (B : Nat) (G : α → Prop) (l : List α) : Prop := l.length * B ≤ 140737488351232 ∧ l.length ≤ 9223372036854775807 ∧ ∀ x ∈ l, G x
def GPair {α β : Type} (G : α → Prop) (G' : β → Prop) (x : α × β) : Prop := G x.1 ∧ G' x.2

section
variable {H : Type} {enc : TypeId × Value → H} {P : Program} {w : World}

def Opens (enc : TypeId × Value → H) (P : Program) (w : World) {α : Type} (d : Kd α) (t : TypeId) (G : α → Prop) : Prop :=
  ∀ (fuel : Nat) (cs : List Value) (x : DataW H × List MemPlace), DataW.trod enc P w 0 (fun _ => true) true fuel t cs = some x →
    (∀ n ∈ x.1.weights P t, n ≤ reachBytes) → ∃ v : α, d.K w v cs ∧ G v

theorem Opens.int {t : TypeId} {k : IntKind} (hu : P.underlying t = some (.int k)) : Opens enc P w (Kd.int k) t (GInt k) := by
  intro fuel cs x h _
  obtain ⟨n, rfl, rfl, hw⟩ := DataW.trod_int hu h
  exact ⟨n, rfl, hw⟩
theorem Opens.bool {t : TypeId} (hu : P.underlying t = some .bool) : Opens enc P w Kd.bool t GBool := by
  intro fuel cs x h _
  obtain ⟨n, rfl, rfl⟩ := DataW.trod_bool hu h
  exact ⟨n, rfl, trivial⟩
theorem Opens.string {t : TypeId} (hu : P.underlying t = some .string) : Opens enc P w Kd.string t GStr := by
  intro fuel cs x h hw
  obtain ⟨n, rfl, rfl, _⟩ := DataW.trod_string hu h
  refine ⟨n, rfl, ?_⟩
  have := hw n.data.toList.length (by simp [DataW.weights])
  rw [Array.length_toList] at this
  exact this
theorem Opens.iso {α β : Type} {d : Kd α} {t : TypeId} {G : α → Prop} (f : β → α) (g : α → β) (hfg : ∀ x, f (g x) = x) (ho : Opens enc P w d t G) : Opens enc P w (Kd.iso d f) t (fun x => G (f x)) := by
  intro fuel cs x h hw
  obtain ⟨v, hK, hG⟩ := ho fuel cs x h hw
  exact ⟨g v, by show d.K w (f (g v)) cs; rw [hfg]; exact hK, by show G (f (g v)); rw [hfg]; exact hG⟩
theorem weights_mem_all {e : TypeId} : ∀ {ds : List (DataW H)} {d : DataW H}, d ∈ ds → ∀ n ∈ d.weights P e, n ∈ DataW.weightsAll P e ds
  | _ :: _, _, .head _, n, hn => by
    simp only [DataW.weightsAll, List.mem_append]
    exact Or.inl hn
  | _ :: _, _, .tail _ h, n, hn => by
    simp only [DataW.weightsAll, List.mem_append]
    exact Or.inr (weights_mem_all h n hn)
theorem Opens.slice {α : Type} {d : Kd α} {t e : TypeId} {G : α → Prop} {B : Nat} [Inhabited α] (hu : P.underlying t = some (.slice e)) (hc : P.cellsOf e = d.sz) (hB : P.bytesOf e = B) (ho : Opens enc P w d e G) : Opens enc P w (Kd.slice e d) t (GSlice B G) := by
  intro fuel cs x h hw
  rcases open_slice hu h with ⟨rfl, rfl⟩ | ⟨a, len, cap, m, n, D, Pl, rfl, _, hl, hm, hmm, rfl, hx⟩
  · exact ⟨[], ⟨none, 0, rfl, Nat.le_refl _, rfl, by simp, fun h => absurd h (by simp)⟩, by simp, by simp, fun x hx => by simp at hx⟩
  · rw [if_pos rfl] at hmm
    subst hmm
    simp only [DataW.weights, hu] at hw
    have hlenB : len * B ≤ 140737488351232 := by
      have := hw _ List.mem_cons_self
      rw [List.length_map, List.length_map, List.length_range, List.length_range, hB] at this
      exact Nat.le_trans (Nat.mul_le_mul_right _ (by omega)) this
    have hel : ∀ i, i < len → ∃ v : α, (∃ cs', cs'.length = d.sz ∧ d.K w v cs' ∧ ∀ j u, cs'[j]? = some u → w.cell? (a.add (i * d.sz + j)) = some u) ∧ G v := by
      intro i hi
      obtain ⟨cs', h1, h2⟩ := hx i (by omega)
      rw [hc] at h1
      obtain ⟨v, hK, hG⟩ := ho n cs' (D i, Pl i) h2 (fun q hq => hw q (List.mem_cons_of_mem _ (List.mem_append_left _ (weights_mem_all (List.mem_map.2 ⟨i, List.mem_range.2 hi, rfl⟩) q hq))))
      obtain ⟨_, hcl, hat⟩ := World.cells?_some h1
      refine ⟨v, ⟨cs', hcl, hK, fun j u hj => ?_⟩, hG⟩
      have hjl : j < d.sz := by
        obtain ⟨h3, _⟩ := List.getElem?_eq_some_iff.1 hj
        omega
      rw [← Go.Deep.add_add, hat j hjl, hj]
    obtain ⟨V, hV⟩ := choose_lt hel
    have hml : maxLen = 9223372036854775807 := rfl
    refine ⟨(List.range len).map V, ⟨some a, m, by rw [List.length_map, List.length_range], by simpa using hl, ?_⟩, ⟨by simpa using hlenB, by simp; omega, ?_⟩⟩
    · refine ⟨rfl, by simp; omega, fun _ => ⟨a, rfl, fun j p hj => ?_⟩⟩
      obtain ⟨hj1, hj2⟩ := List.getElem?_eq_some_iff.1 hj
      simp at hj1 hj2
      subst hj2
      exact (hV j hj1).1
    · intro x hx
      obtain ⟨i, hi, rfl⟩ := List.mem_map.1 hx
      exact (hV i (List.mem_range.1 hi)).2

def OpensF (enc : TypeId × Value → H) (P : Program) (w : World) {α : Type} (d : Kd α) (fs : List Field) (off : Nat) (G : α → Prop) : Prop :=
  ∀ (n : Nat) (cs : List Value) (ys : List (DataW H × List MemPlace)), cs.length = off + d.sz → ys.length = fs.length →
    (∀ (i : Nat) (f : Field), fs[i]? = some f → DataW.trod enc P w 0 (fun _ => true) true n f.type ((cs.drop f.offset).take (P.cellsOf f.type)) = ys[i]?) →
    (∀ n ∈ DataW.weightsEach P (fs.map (·.type)) (ys.map (·.1)), n ≤ reachBytes) → ∃ v : α, d.K w v (cs.drop off) ∧ G v

theorem OpensF.one {α : Type} {d : Kd α} {f : Field} {off : Nat} {G : α → Prop} (hoff : f.offset = off) (hc : P.cellsOf f.type = d.sz) (ho : Opens enc P w d f.type G) : OpensF enc P w d [f] off G := by
  intro n cs ys hcs hys h hw
  match ys, hys with
  | [y], _ =>
    have h0 := h 0 f rfl
    rw [hoff, hc, List.take_of_length_le (by rw [List.length_drop]; omega)] at h0
    exact ho n _ y h0 (fun q hq => hw q (by simp [DataW.weightsEach]; exact hq))
theorem OpensF.cons {α β : Type} {a : Kd α} {b : Kd β} {f : Field} {fs : List Field} {off : Nat} {G : α → Prop} {G' : β → Prop} (hoff : f.offset = off) (hc : P.cellsOf f.type = a.sz) (ho : Opens enc P w a f.type G) (hr : OpensF enc P w b fs (off + a.sz) G') : OpensF enc P w (Kd.pair a b) (f :: fs) off (GPair G G') := by
  intro n cs ys hcs hys h hw
  have hcs' : cs.length = off + (a.sz + b.sz) := hcs
  match ys, hys with
  | y :: ys, hys =>
    have h0 := h 0 f rfl
    rw [hoff, hc] at h0
    obtain ⟨v0, hK0, hG0⟩ := ho n _ y h0 (fun q hq => hw q (by simp only [List.map_cons, DataW.weightsEach, List.mem_append]; exact Or.inl hq))
    obtain ⟨v1, hK1, hG1⟩ := hr n cs ys (by omega) (by simpa using hys) (fun i g hg => by have := h (i + 1) g (by simpa using hg); simpa using this) (fun q hq => hw q (by simp only [List.map_cons, DataW.weightsEach, List.mem_append]; exact Or.inr hq))
    refine ⟨(v0, v1), ⟨_, _, ?_, hK0, hK1⟩, hG0, hG1⟩
    rw [← List.drop_drop, List.take_append_drop]
theorem Opens.struct {α : Type} {d : Kd α} {t : TypeId} {fs : Array Field} {G : α → Prop} (hu : P.underlying t = some (.struct fs)) (hc : P.cellsOf t = d.sz) (ho : OpensF enc P w d fs.toList 0 G) : Opens enc P w d t G := by
  intro fuel cs x h hw
  obtain ⟨xs, n, _, rfl, hlen, hxl, hf⟩ := DataW.trod_struct hu h
  simp only [DataW.weights, hu] at hw
  exact ho n cs xs (by omega) (by simpa using hxl) (fun i f hi => hf i f (by simpa using hi)) hw

/-- A parameter that is a struct. -/
theorem open_agg_any {α : Type} {d : Kd α} {t : TypeId} {fs : Array Field} {G : α → Prop} {r : Reach} {b0 : Nat} {v : Value} {D : DataW H} {ps : List MemPlace} {ts : List TypeId} {ds : List (DataW H)} {j : Nat}
    (hu : P.underlying t = some (.struct fs)) (ho : Opens enc P w d t G) (hv : Value.okWide P w r b0 t v) (h : DataW.Trod enc P w 0 (fun _ => true) true t v D ps)
    (hsz : (DataW.weightsEach P ts ds).all (· ≤ reachBytes) = true) (ht : ts[j]? = some t) (hd : ds[j]? = some D) : ∃ (x : α) (cs : List Value), v = .agg cs.toArray ∧ d.K w x cs ∧ G x := by
  obtain ⟨cs, rfl, _⟩ := okWide_struct hu hv
  obtain ⟨fuel, hf⟩ := h
  obtain ⟨x, hK, hG⟩ := ho fuel _ _ hf (fun n hn => by have := List.all_eq_true.1 hsz n (DataW.weights_mem_each ht hd n hn); simpa using this)
  exact ⟨x, cs.toList, by simp, hK, hG⟩
/-- A parameter that is a slice. -/
theorem open_row_any {α : Type} {d : Kd α} {t e : TypeId} {G : List α → Prop} {r : Reach} {b0 : Nat} {v : Value} {D : DataW H} {ps : List MemPlace} {ts : List TypeId} {ds : List (DataW H)} {j : Nat}
    (hu : P.underlying t = some (.slice e)) (ho : Opens enc P w (Kd.slice e d) t G) (hv : Value.okWide P w r b0 t v) (h : DataW.Trod enc P w 0 (fun _ => true) true t v D ps)
    (hsz : (DataW.weightsEach P ts ds).all (· ≤ reachBytes) = true) (ht : ts[j]? = some t) (hd : ds[j]? = some D) : ∃ (x : List α) (A : Option Addr) (c : Nat), v = .slice A x.length c ∧ x.length ≤ c ∧ d.C w A x.length x ∧ G x := by
  obtain ⟨a, len, cap, rfl⟩ := okWide_slice hu hv
  obtain ⟨fuel, hf⟩ := h
  obtain ⟨x, ⟨A, c, he, hl, hC⟩, hG⟩ := ho fuel _ _ hf (fun n hn => by have := List.all_eq_true.1 hsz n (DataW.weights_mem_each ht hd n hn); simpa using this)
  simp [Value.cells] at he
  obtain ⟨rfl, rfl, rfl⟩ := he
  exact ⟨x, a, cap, rfl, hl, hC, hG⟩
end
end Go.Proofs.YtmphplpfgjcpiaaW.Opening
/- How this law's struct arguments are read (written by a program of this session's: mylaw.py). -/
namespace Go.Proofs.Ytmphplpfgjcpiaa.PCargo
open Go.RowKit Go.Proofs.YtmphplpfgjcpiaaW.Opening Go.Proofs.YtmphplpfgjcpiaaW.PrintWords
def GS23 (x : S23) : Prop := (GPair GStr (GPair (GInt .i64) (GPair (GInt .i64) (GInt .i64)))) (x.f0, x.f1, x.f2, x.f3)
instance : Inhabited S23 := ⟨z23⟩
theorem opens23 {H : Type} {enc : TypeId × Value → H} {w : World} : Opens enc Try.prog w k23 23 GS23 :=
  Opens.iso (fun x : S23 => (x.f0, x.f1, x.f2, x.f3)) (fun p => ⟨p.1, p.2.1, p.2.2.1, p.2.2.2⟩) (fun _ => rfl) (Opens.struct Try.underlying23 (by kernel_rfl) (OpensF.cons rfl (by kernel_rfl) (Opens.string Try.underlying9) (OpensF.cons rfl (by kernel_rfl) (Opens.int Try.underlying3) (OpensF.cons rfl (by kernel_rfl) (Opens.int Try.underlying3) (OpensF.one rfl (by kernel_rfl) (Opens.int Try.underlying3))))))
def GS44 (x : S44) : Prop := (GPair (GInt .i64) (GPair (GInt .i64) (GPair (GInt .i64) (GPair (GInt .i64) (GPair (GInt .i64) (GInt .i64)))))) (x.f0, x.f1, x.f2, x.f3, x.f4, x.f5)
instance : Inhabited S44 := ⟨z44⟩
theorem opens44 {H : Type} {enc : TypeId × Value → H} {w : World} : Opens enc Try.prog w k44 44 GS44 :=
  Opens.iso (fun x : S44 => (x.f0, x.f1, x.f2, x.f3, x.f4, x.f5)) (fun p => ⟨p.1, p.2.1, p.2.2.1, p.2.2.2.1, p.2.2.2.2.1, p.2.2.2.2.2⟩) (fun _ => rfl) (Opens.struct Try.underlying44 (by kernel_rfl) (OpensF.cons rfl (by kernel_rfl) (Opens.int Try.underlying3) (OpensF.cons rfl (by kernel_rfl) (Opens.int Try.underlying3) (OpensF.cons rfl (by kernel_rfl) (Opens.int Try.underlying3) (OpensF.cons rfl (by kernel_rfl) (Opens.int Try.underlying3) (OpensF.cons rfl (by kernel_rfl) (Opens.int Try.underlying3) (OpensF.one rfl (by kernel_rfl) (Opens.int Try.underlying3))))))))
end Go.Proofs.Ytmphplpfgjcpiaa.PCargo
/- The law CargoTransfers: its pure statement, and that out of it the Go code answers true (written by a program of this session's: mylaw.py). -/
namespace Go.Proofs.Ytmphplpfgjcpiaa.PCargo
open Go.RowKit Go.Proofs.YtmphplpfgjcpiaaW.Opening Go.Proofs.YtmphplpfgjcpiaaW.PrintWords Go.Proofs.YtmphplpfgjcpiaaW.PrintLast

/-- THE PURE STATEMENT of hinterlandlaw09_CargoTransfers. -/
def hinterlandlaw09_CargoTransfers.Pure : Prop := ∀ (l0 : List (S23)) (l1 : List (S44)) (a2 : Int) (a3 : Int), GSlice 40 GS23 l0 → GSlice 48 GS44 l1 → GInt .i64 a2 → GInt .i64 a3 → ∃ k, hinterlandlaw09_CargoTransfers.f k l0 l1 a2 a3 = some true
theorem hinterlandlaw09_CargoTransfers.walk (P : hinterlandlaw09_CargoTransfers.Pure) (A0 : Option Addr) (c0 : Nat) (l0 : List (S23)) (A1 : Option Addr) (c1 : Nat) (l1 : List (S44)) (a2 : Int) (a3 : Int) (w : World) (hr0 : Kd.C k23 w A0 l0.length l0) (hc0 : l0.length ≤ c0) (hr1 : Kd.C k44 w A1 l1.length l1) (hc1 : l1.length ≤ c1) (g0 : GSlice 40 GS23 l0) (g1 : GSlice 48 GS44 l1) (g2 : GInt .i64 a2) (g3 : GInt .i64 a3) :
    Calls Try.prog 8 #[.slice A0 l0.length c0, .slice A1 l1.length c1, .int .i64 a2, .int .i64 a3] w fun e w' => e = .returned (.bool true) ∧ Below w.heap.size w w' := by
  obtain ⟨k, h⟩ := P l0 l1 a2 a3 g0 g1 g2 g3
  refine (hinterlandlaw09_CargoTransfers.calls k A0 c0 l0 A1 c1 l1 a2 a3 true w hr0 hc0 hr1 hc1 h).mono ?_
  rintro e w' ⟨rfl, hd⟩
  exact ⟨rfl, hd⟩
end Go.Proofs.Ytmphplpfgjcpiaa.PCargo
/- What a function with a number of rounds tells from some number of rounds on. -/
namespace Go.Proofs.YtmphplpfgjcpiaaW.Evt
/-- From some number of rounds on, g tells r. -/
def Evt {α : Type} (g : Nat → Option α) (r : α) : Prop := ∃ n, ∀ k, n ≤ k → g k = some r
section
variable {α β : Type}
theorem Evt.const (r : α) : Evt (fun _ => some r) r := ⟨0, fun _ _ => rfl⟩
theorem Evt.of {g : Nat → Option α} {r : α} (h : ∀ k, g k = some r) : Evt g r := ⟨0, fun k _ => h k⟩
theorem Evt.bind {g : Nat → Option α} {h : Nat → α → Option β} {a : α} {r : β} (hg : Evt g a) (hh : Evt (fun k => h k a) r) : Evt (fun k => (g k).bind (h k)) r := by
  obtain ⟨n, hn⟩ := hg
  obtain ⟨m, hm⟩ := hh
  exact ⟨n + m, fun k hk => by show (g k).bind (h k) = some r; rw [hn k (by omega)]; exact hm k (by omega)⟩
theorem Evt.succ {g h : Nat → Option α} {r : α} (hs : ∀ k, g (k + 1) = h k) (hh : Evt h r) : Evt g r := by
  obtain ⟨n, hn⟩ := hh
  refine ⟨n + 1, fun k hk => ?_⟩
  obtain ⟨m, rfl⟩ : ∃ m, k = m + 1 := ⟨k - 1, by omega⟩
  rw [hs]; exact hn m (by omega)
theorem Evt.congr {g h : Nat → Option α} {r : α} (hs : ∀ k, g k = h k) (hh : Evt h r) : Evt g r := by
  obtain ⟨n, hn⟩ := hh
  exact ⟨n, fun k hk => by rw [hs]; exact hn k hk⟩
theorem Evt.some_ {g : Nat → Option α} {r : α} (h : Evt g r) : ∃ k, g k = some r := by
  obtain ⟨n, hn⟩ := h
  exact ⟨n, hn n (Nat.le_refl _)⟩
theorem Evt.ite {c : Prop} [Decidable c] {g h : Nat → Option α} {r : α} (hp : c → Evt g r) (hn : ¬ c → Evt h r) : Evt (fun k => if c then g k else h k) r := by
  by_cases hc : c
  · simp only [if_pos hc]; exact hp hc
  · simp only [if_neg hc]; exact hn hc
theorem Evt.pos {c : Prop} [Decidable c] {g h : Nat → Option α} {r : α} (hc : c) (hp : Evt g r) : Evt (fun k => if c then g k else h k) r := by simp only [if_pos hc]; exact hp
theorem Evt.neg {c : Prop} [Decidable c] {g h : Nat → Option α} {r : α} (hc : ¬ c) (hp : Evt h r) : Evt (fun k => if c then g k else h k) r := by simp only [if_neg hc]; exact hp
theorem Evt.cast {g : Nat → Option α} {r s : α} (h : Evt g r) (e : r = s) : Evt g s := e ▸ h
theorem Evt.unique {g : Nat → Option α} {r s : α} (h : Evt g r) (h' : Evt g s) : r = s := by
  obtain ⟨n, hn⟩ := h
  obtain ⟨m, hm⟩ := h'
  exact Option.some.inj ((hn (n + m) (by omega)).symm.trans (hm (n + m) (by omega)))
end
end Go.Proofs.YtmphplpfgjcpiaaW.Evt
/- Names, lists of cargoes, what is paid: the program and the reference. -/
namespace Go.Proofs.Ytmphplpfgjcpiaa.PCargo
open Go.RowKit Go.Proofs.YtmphplpfgjcpiaaW.PrintWords Go.Proofs.YtmphplpfgjcpiaaW.PrintLast Go.Proofs.YtmphplpfgjcpiaaW.PrintMore Go.Proofs.YtmphplpfgjcpiaaW.Evt
theorem w64 {x : Int} (h : -9223372036854775808 ≤ x) (h2 : x ≤ 9223372036854775807) : wrap64 x = x := by unfold wrap64; omega
theorem u64 {x : Int} (h : 0 ≤ x) (h2 : x ≤ 18446744073709551615) : IntKind.u64.wrap x = x := IntWalk.u64_in x ⟨h, h2⟩
theorem mask32 {x : Int} (h0 : 0 ≤ x) (h1 : x ≤ 18446744073709551615) : Go.bits .and .u64 x 4294967295 = x % 4294967296 := by
  have e : (2 : Int) ^ 64 = 18446744073709551616 := by decide
  exact bits_mask .u64 64 (by decide) (fun n g0 g1 => u64 g0 (by omega)) 32 (by decide) x h0 (by omega)
/-- Are all bytes from i on (d of them) letters? -/
def nscan (s : ByteArray) : Nat → Int → Bool
  | 0, _ => true
  | d + 1, i => decide (97 ≤ bt s i) && (decide (bt s i ≤ 122) && nscan s d (i + 1))
def nameB (s : ByteArray) : Bool := nscan s s.size 0 && decide (1 ≤ s.size ∧ s.size ≤ 12)
theorem name_loop (s : ByteArray) (hs : s.size ≤ 140737488351232) : ∀ (d : Nat) (i : Int), 0 ≤ i → i + d = s.size → Evt (fun k => cargo_name.l0 k s (s.size : Int) i) (nscan s d i && decide (1 ≤ s.size ∧ s.size ≤ 12)) := by
  intro d
  induction d with
  | zero =>
    intro i h0 h1
    refine Evt.succ (h := _) (fun k => by rw [cargo_name.l0]) ?_
    refine Evt.neg (by omega) ?_
    by_cases c : (s.size : Int) ≥ 1
    · exact Evt.pos c ((Evt.const _).cast (by rw [nscan, Bool.true_and]; congr 1; apply propext; omega))
    · refine Evt.neg c ((Evt.const _).cast ?_)
      rw [nscan, Bool.true_and]; symm; simp; omega
  | succ d ih =>
    intro i h0 h1
    refine Evt.succ (h := _) (fun k => by rw [cargo_name.l0]) ?_
    refine Evt.pos (by omega) (Evt.pos h0 (Evt.pos (by omega) ?_))
    rw [w64 (x := i + 1) (by omega) (by omega)]
    by_cases a : bt s i < 97
    · exact Evt.pos a ((Evt.const _).cast (by rw [nscan, show decide (97 ≤ bt s i) = false from by simp; omega]; rfl))
    refine Evt.neg a ?_
    by_cases b : bt s i > 122
    · exact Evt.pos b ((Evt.const _).cast (by rw [nscan, show decide (bt s i ≤ 122) = false from by simp; omega]; simp))
    refine Evt.neg b ((ih (i + 1) (by omega) (by omega)).cast ?_)
    rw [nscan, show decide (97 ≤ bt s i) = true from by simp; omega, show decide (bt s i ≤ 122) = true from by simp; omega]; rfl
theorem cargo_name_ev (s : ByteArray) (hs : s.size ≤ 140737488351232) : Evt (fun k => cargo_name.f k s) (nameB s) := by
  unfold cargo_name.f nameB
  exact name_loop s hs s.size 0 (by omega) (by omega)
theorem named_loop (s : ByteArray) (hs : s.size ≤ 140737488351232) : ∀ (d : Nat) (i : Int), 0 ≤ i → i + d = s.size → Evt (fun k => hinterlandref09_Named.l0 k s i) (nscan s d i) := by
  intro d
  induction d with
  | zero =>
    intro i h0 h1
    refine Evt.succ (h := _) (fun k => by rw [hinterlandref09_Named.l0]) ?_
    exact Evt.neg (by omega) (Evt.const _)
  | succ d ih =>
    intro i h0 h1
    refine Evt.succ (h := _) (fun k => by rw [hinterlandref09_Named.l0]) ?_
    refine Evt.pos (by omega) (Evt.pos h0 ?_)
    rw [w64 (x := i + 1) (by omega) (by omega)]
    by_cases a : bt s i < 97
    · exact Evt.pos a ((Evt.const _).cast (by rw [nscan, show decide (97 ≤ bt s i) = false from by simp; omega]; rfl))
    refine Evt.neg a ?_
    by_cases b : bt s i > 122
    · exact Evt.pos b ((Evt.const _).cast (by rw [nscan, show decide (bt s i ≤ 122) = false from by simp; omega]; simp))
    refine Evt.neg b ((ih (i + 1) (by omega) (by omega)).cast ?_)
    rw [nscan, show decide (97 ≤ bt s i) = true from by simp; omega, show decide (bt s i ≤ 122) = true from by simp; omega]; rfl
theorem ref_Named_ev (s : ByteArray) (hs : s.size ≤ 140737488351232) : Evt (fun k => hinterlandref09_Named.f k s) (nameB s) := by
  unfold hinterlandref09_Named.f
  by_cases h : 1 ≤ s.size ∧ s.size ≤ 12
  · refine Evt.neg (by omega) ?_
    refine Evt.succ (h := _) (fun k => by rw [hinterlandref09_Named.j0]) ?_
    refine Evt.neg (by simp; omega) ((named_loop s hs s.size 0 (by omega) (by omega)).cast ?_)
    unfold nameB
    rw [show decide (1 ≤ s.size ∧ s.size ≤ 12) = true from by simpa using h, Bool.and_true]
  · have hf : nameB s = false := by
      unfold nameB
      rw [show decide (1 ≤ s.size ∧ s.size ≤ 12) = false from by simpa using h, Bool.and_false]
    have no : Evt (fun k => hinterlandref09_Named.j0 k s true) (nameB s) := by
      refine Evt.succ (h := _) (fun k => by rw [hinterlandref09_Named.j0]) ?_
      exact Evt.pos rfl ((Evt.const _).cast hf.symm)
    by_cases a : (s.size : Int) < 1
    · exact Evt.pos a no
    · refine Evt.neg a ?_
      rw [show decide ((s.size : Int) > 12) = true from by simp; omega]
      exact no
theorem within_of (a b : Int) : cargo_within.f a b = some (decide (0 ≤ a ∧ a ≤ b)) := by
  unfold cargo_within.f
  by_cases h : a ≥ 0
  · rw [if_pos h]; congr 1; rw [Bool.eq_iff_iff]; simp; omega
  · rw [if_neg h]; congr 1; symm; simp; omega
theorem out_of (a b : Int) : hinterlandref09_Out.f a b = some (!decide (0 ≤ a ∧ a ≤ b)) := by
  unfold hinterlandref09_Out.f
  by_cases h : a < 0
  · rw [if_pos h]; congr 1; rw [Bool.eq_iff_iff]; simp; omega
  · rw [if_neg h]; congr 1; rw [Bool.eq_iff_iff]; simp; omega
def cargoB (x : S23) : Bool := nameB x.f0 && (decide (0 ≤ x.f1 ∧ x.f1 ≤ 1000) && (decide (0 ≤ x.f2 ∧ x.f2 ≤ 255) && decide (0 ≤ x.f3 ∧ x.f3 ≤ 255)))
/-- Has cargo i the name of one of the d cargoes from j on? -/
def dupIn (l : List S23) (i : Int) : Nat → Int → Bool
  | 0, _ => false
  | d + 1, j => if ((rd_T23 l i).f0).toList = ((rd_T23 l j).f0).toList then true else dupIn l i d (j + 1)
def dups (l : List S23) : Nat → Int → Int
  | 0, _ => 0
  | d + 1, i => if dupIn l i i.toNat 0 = true then 3 else dups l d (i + 1)
def cscan (l : List S23) : Nat → Int → Int
  | 0, _ => dups l l.length 0
  | d + 1, i => if cargoB (rd_T23 l i) = true then cscan l d (i + 1) else 1
def cargoesOf (l : List S23) : Int := if (l.length : Int) > 16 then 4 else cscan l l.length 0
theorem rd23_mem {l : List S23} {i : Int} (h0 : 0 ≤ i) (h1 : i < l.length) : rd_T23 l i ∈ l := by
  have h2 : i.toNat < l.length := by omega
  unfold rd_T23
  rw [List.getD_eq_getElem?_getD, List.getElem?_eq_getElem h2]
  exact List.getElem_mem h2
theorem rd23_take {l : List S23} {i : Nat} {j : Int} (h0 : 0 ≤ j) (h1 : j < i) : rd_T23 (l.take i) j = rd_T23 l j := by
  unfold rd_T23
  rw [List.getD_eq_getElem?_getD, List.getD_eq_getElem?_getD, List.getElem?_take_of_lt (by omega)]
theorem ref_dupIn (l : List S23) (hl : l.length ≤ 16) (i : Int) (h0 : 0 ≤ i) (h1 : i < l.length) {r : Int} (next : Evt (fun k => hinterlandref09_ValidateCargoes.l1 k l (i + 1)) r) : ∀ (d : Nat) (j : Int), 0 ≤ j → j + d = i →
    Evt (fun k => hinterlandref09_ValidateCargoes.l2 k l i j) (if dupIn l i d j = true then 3 else r) := by
  intro d
  induction d with
  | zero =>
    intro j h2 h3
    refine Evt.succ (h := _) (fun k => by rw [hinterlandref09_ValidateCargoes.l2]) ?_
    rw [w64 (x := i + 1) (by omega) (by omega)]
    exact Evt.neg (by omega) next
  | succ d ih =>
    intro j h2 h3
    refine Evt.succ (h := _) (fun k => by rw [hinterlandref09_ValidateCargoes.l2]) ?_
    rw [w64 (x := j + 1) (by omega) (by omega)]
    refine Evt.pos (by omega) (Evt.pos h0 (Evt.pos h1 (Evt.pos h2 (Evt.pos (by omega) ?_))))
    rw [dupIn]
    by_cases c : ((rd_T23 l i).f0).toList = ((rd_T23 l j).f0).toList
    · exact Evt.pos c ((Evt.const _).cast (by rw [if_pos c, if_pos rfl]))
    · exact Evt.neg c ((ih (j + 1) (by omega) (by omega)).cast (by rw [if_neg c]))
theorem ref_dups (l : List S23) (hl : l.length ≤ 16) : ∀ (d : Nat) (i : Int), 0 ≤ i → i + d = l.length → Evt (fun k => hinterlandref09_ValidateCargoes.l1 k l i) (dups l d i) := by
  intro d
  induction d with
  | zero =>
    intro i h0 h1
    refine Evt.succ (h := _) (fun k => by rw [hinterlandref09_ValidateCargoes.l1]) ?_
    exact Evt.neg (by omega) (Evt.const _)
  | succ d ih =>
    intro i h0 h1
    refine Evt.succ (h := _) (fun k => by rw [hinterlandref09_ValidateCargoes.l1]) ?_
    exact Evt.pos (by omega) (ref_dupIn l hl i h0 (by omega) (ih (i + 1) (by omega) (by omega)) i.toNat 0 (by omega) (by omega))
theorem ref_cscan (l : List S23) (hl : l.length ≤ 16) (hs : ∀ x ∈ l, x.f0.size ≤ 140737488351232) : ∀ (d : Nat) (i : Int), 0 ≤ i → i + d = l.length → Evt (fun k => hinterlandref09_ValidateCargoes.l0 k l i) (cscan l d i) := by
  intro d
  induction d with
  | zero =>
    intro i h0 h1
    refine Evt.succ (h := _) (fun k => by rw [hinterlandref09_ValidateCargoes.l0]) ?_
    exact Evt.neg (by omega) (ref_dups l hl l.length 0 (by omega) (by omega))
  | succ d ih =>
    intro i h0 h1
    refine Evt.succ (h := _) (fun k => by rw [hinterlandref09_ValidateCargoes.l0]) ?_
    refine Evt.pos (by omega) (Evt.pos h0 (Evt.bind (ref_Named_ev _ (hs _ (rd23_mem h0 (by omega)))) ?_))
    rw [w64 (x := i + 1) (by omega) (by omega), out_of, out_of, out_of]
    simp only [Option.bind_some]
    rw [cscan]
    unfold cargoB
    by_cases a : nameB (rd_T23 l i).f0 = true
    · refine Evt.pos a ?_
      rw [a, Bool.true_and]
      by_cases b : 0 ≤ (rd_T23 l i).f1 ∧ (rd_T23 l i).f1 ≤ 1000
      · refine Evt.neg (by simp [b]) ?_
        rw [show decide (0 ≤ (rd_T23 l i).f1 ∧ (rd_T23 l i).f1 ≤ 1000) = true from decide_eq_true b, Bool.true_and]
        by_cases c : 0 ≤ (rd_T23 l i).f2 ∧ (rd_T23 l i).f2 ≤ 255
        · refine Evt.neg (by simp [c]) ?_
          rw [show decide (0 ≤ (rd_T23 l i).f2 ∧ (rd_T23 l i).f2 ≤ 255) = true from decide_eq_true c, Bool.true_and]
          by_cases d' : 0 ≤ (rd_T23 l i).f3 ∧ (rd_T23 l i).f3 ≤ 255
          · refine Evt.neg (by simp [d']) ?_
            rw [if_pos (decide_eq_true d')]
            exact ih (i + 1) (by omega) (by omega)
          · exact Evt.pos (by rw [decide_eq_false d']; rfl) ((Evt.const _).cast (by rw [if_neg (by rw [decide_eq_false d']; simp)]))
        · exact Evt.pos (by rw [decide_eq_false c]; rfl) ((Evt.const _).cast (by rw [if_neg (by rw [decide_eq_false c]; simp)]))
      · exact Evt.pos (by rw [decide_eq_false b]; rfl) ((Evt.const _).cast (by rw [if_neg (by rw [decide_eq_false b]; simp)]))
    · exact Evt.neg a ((Evt.const _).cast (by rw [if_neg (by rw [Bool.not_eq_true] at a; rw [a]; simp)]))
theorem ref_Cargoes_ev (l : List S23) (hs : ∀ x ∈ l, x.f0.size ≤ 140737488351232) : Evt (fun k => hinterlandref09_ValidateCargoes.f k l) (cargoesOf l) := by
  unfold hinterlandref09_ValidateCargoes.f cargoesOf
  by_cases c : (l.length : Int) > 16
  · exact Evt.pos c ((Evt.const _).cast (if_pos c).symm)
  · exact Evt.neg c ((ref_cscan l (by omega) hs l.length 0 (by omega) (by omega)).cast (if_neg c).symm)
theorem cargo_dupIn (l : List S23) (hl : l.length ≤ 16) (i : Int) (h0 : 0 ≤ i) (h1 : i < l.length) (a b c : Int) {r : Int} (next : Evt (fun k => cargo_ValidateCargoes.l1 k l l (l.length : Int) (i + 1)) r) : ∀ (d : Nat) (j : Int), 0 ≤ j → j + d = i →
    Evt (fun k => cargo_ValidateCargoes.l2 k l l (l.length : Int) i (l.take i.toNat) ((l.take i.toNat).length : Int) j (rd_T23 l i).f0 a b c) (if dupIn l i d j = true then 3 else r) := by
  intro d
  have hln : ((l.take i.toNat).length : Int) = i := by rw [List.length_take]; omega
  induction d with
  | zero =>
    intro j h2 h3
    refine Evt.succ (h := _) (fun k => by rw [cargo_ValidateCargoes.l2]) ?_
    rw [w64 (x := i + 1) (by omega) (by omega)]
    exact Evt.neg (by omega) next
  | succ d ih =>
    intro j h2 h3
    refine Evt.succ (h := _) (fun k => by rw [cargo_ValidateCargoes.l2]) ?_
    rw [w64 (x := j + 1) (by omega) (by omega)]
    refine Evt.pos (by omega) (Evt.pos h2 (Evt.pos (by omega) ?_))
    rw [dupIn, rd23_take h2 (by omega)]
    by_cases c : ((rd_T23 l i).f0).toList = ((rd_T23 l j).f0).toList
    · exact Evt.pos c ((Evt.const _).cast (by rw [if_pos c, if_pos rfl]))
    · exact Evt.neg c ((ih (j + 1) (by omega) (by omega)).cast (by rw [if_neg c]))
theorem cargo_dups (l : List S23) (hl : l.length ≤ 16) : ∀ (d : Nat) (i : Int), 0 ≤ i → i + d = l.length → Evt (fun k => cargo_ValidateCargoes.l1 k l l (l.length : Int) i) (dups l d i) := by
  intro d
  induction d with
  | zero =>
    intro i h0 h1
    refine Evt.succ (h := _) (fun k => by rw [cargo_ValidateCargoes.l1]) ?_
    exact Evt.neg (by omega) (Evt.const _)
  | succ d ih =>
    intro i h0 h1
    refine Evt.succ (h := _) (fun k => by rw [cargo_ValidateCargoes.l1]) ?_
    simp only [Option.bind_some]
    exact Evt.pos (by omega) (Evt.pos h0 (Evt.pos (by omega) (Evt.pos (by omega) (cargo_dupIn l hl i h0 (by omega) _ _ _ (ih (i + 1) (by omega) (by omega)) i.toNat 0 (by omega) (by omega)))))
theorem cargo_cscan (l : List S23) (hl : l.length ≤ 16) (hs : ∀ x ∈ l, x.f0.size ≤ 140737488351232) : ∀ (d : Nat) (i : Int), 0 ≤ i → i + d = l.length → Evt (fun k => cargo_ValidateCargoes.l0 k l l (l.length : Int) i) (cscan l d i) := by
  intro d
  induction d with
  | zero =>
    intro i h0 h1
    refine Evt.succ (h := _) (fun k => by rw [cargo_ValidateCargoes.l0]) ?_
    exact Evt.neg (by omega) (cargo_dups l hl l.length 0 (by omega) (by omega))
  | succ d ih =>
    intro i h0 h1
    refine Evt.succ (h := _) (fun k => by rw [cargo_ValidateCargoes.l0]) ?_
    refine Evt.pos (by omega) (Evt.pos h0 (Evt.pos (by omega) (Evt.bind (cargo_name_ev _ (hs _ (rd23_mem h0 (by omega)))) ?_)))
    rw [w64 (x := i + 1) (by omega) (by omega), within_of, within_of, within_of]
    simp only [Option.bind_some]
    rw [cscan]
    unfold cargoB
    by_cases a : nameB (rd_T23 l i).f0 = true
    · refine Evt.pos a ?_
      rw [a, Bool.true_and]
      by_cases b : 0 ≤ (rd_T23 l i).f1 ∧ (rd_T23 l i).f1 ≤ 1000
      · refine Evt.pos (decide_eq_true b) ?_
        rw [show decide (0 ≤ (rd_T23 l i).f1 ∧ (rd_T23 l i).f1 ≤ 1000) = true from decide_eq_true b, Bool.true_and]
        by_cases c : 0 ≤ (rd_T23 l i).f2 ∧ (rd_T23 l i).f2 ≤ 255
        · refine Evt.pos (decide_eq_true c) ?_
          rw [show decide (0 ≤ (rd_T23 l i).f2 ∧ (rd_T23 l i).f2 ≤ 255) = true from decide_eq_true c, Bool.true_and]
          by_cases d' : 0 ≤ (rd_T23 l i).f3 ∧ (rd_T23 l i).f3 ≤ 255
          · refine Evt.pos (decide_eq_true d') ?_
            rw [if_pos (decide_eq_true d')]
            exact ih (i + 1) (by omega) (by omega)
          · exact Evt.neg (by simpa using d') ((Evt.const _).cast (by rw [if_neg (by rw [decide_eq_false d']; simp)]))
        · exact Evt.neg (by simpa using c) ((Evt.const _).cast (by rw [if_neg (by rw [decide_eq_false c]; simp)]))
      · exact Evt.neg (by simpa using b) ((Evt.const _).cast (by rw [if_neg (by rw [decide_eq_false b]; simp)]))
    · exact Evt.neg a ((Evt.const _).cast (by rw [if_neg (by rw [Bool.not_eq_true] at a; rw [a]; simp)]))
theorem cargo_Cargoes_ev (l : List S23) (hs : ∀ x ∈ l, x.f0.size ≤ 140737488351232) : Evt (fun k => cargo_ValidateCargoes.f k l) (cargoesOf l) := by
  unfold cargo_ValidateCargoes.f cargoesOf
  by_cases c : (l.length : Int) > 16
  · exact Evt.pos c ((Evt.const _).cast (if_pos c).symm)
  · exact Evt.neg c ((cargo_cscan l (by omega) hs l.length 0 (by omega) (by omega)).cast (if_neg c).symm)
/-- How much of a rate counts after some days. -/
def rest (fast slow days : Int) : Int := mx 31 (255 - mx 0 (days - fast) - mx 0 (days - fast - slow))
theorem rest_bd (fast slow days : Int) : 31 ≤ rest fast slow days ∧ rest fast slow days ≤ 255 := by
  unfold rest mx
  constructor <;> (repeat' split) <;> omega
theorem prod_bd {r f c d : Int} (r0 : 0 ≤ r) (r1 : r ≤ 1000) (f0 : 31 ≤ f) (f1 : f ≤ 255) (c0 : 0 ≤ c) (c1 : c ≤ 1000000) (d0 : 0 ≤ d) (d1 : d ≤ 1000000) :
    (0 ≤ r * f ∧ r * f ≤ 255000) ∧ (0 ≤ c * d ∧ c * d ≤ 1000000000000) ∧ (0 ≤ (r * f) * (c * d) ∧ (r * f) * (c * d) ≤ 255000000000000000) := by
  have a1 : 0 ≤ r * f := Int.mul_nonneg r0 (by omega)
  have a2 : r * f ≤ 1000 * 255 := Int.mul_le_mul r1 f1 (by omega) (by omega)
  have b1 : 0 ≤ c * d := Int.mul_nonneg c0 d0
  have b2 : c * d ≤ 1000000 * 1000000 := Int.mul_le_mul c1 d1 d0 (by omega)
  have e1 : 0 ≤ (r * f) * (c * d) := Int.mul_nonneg a1 b1
  have e2 : (r * f) * (c * d) ≤ 255000 * 1000000000000 := Int.mul_le_mul (by omega) (by omega) b1 (by omega)
  exact ⟨⟨a1, by omega⟩, ⟨b1, by omega⟩, e1, by omega⟩
def payOf (rate fast slow count far days : Int) : Int := mn 1000000000000 ((rate * rest fast slow days) * (count * far) / 4096)
theorem mul64_of {a b : Int} (a0 : 0 ≤ a) (a1 : a ≤ 255000) (b0 : 0 ≤ b) (b1 : b ≤ 1000000000000) (p0 : 0 ≤ a * b) (p1 : a * b ≤ 255000000000000000) : bits_Mul64.f a b = some (0, a * b) := by
  unfold bits_Mul64.f
  rw [mask32 (x := a) (by omega) (by omega), mask32 (x := b) (by omega) (by omega), show a / 4294967296 = 0 by omega, show a % 4294967296 = a by omega]
  have q1 : 0 ≤ a * (b % 4294967296) := Int.mul_nonneg a0 (by omega)
  have q2 : a * (b % 4294967296) ≤ 255000 * 4294967295 := Int.mul_le_mul a1 (by omega) (by omega) (by omega)
  have q3 : 0 ≤ a * (b / 4294967296) := Int.mul_nonneg a0 (by omega)
  have q4 : a * (b / 4294967296) ≤ 255000 * 233 := Int.mul_le_mul a1 (by omega) (by omega) (by omega)
  rw [Int.zero_mul, Int.zero_mul, u64 (x := 0) (by omega) (by omega), u64 (x := a * (b % 4294967296)) (by omega) (by omega), Int.zero_add (a * (b % 4294967296) / 4294967296)]
  rw [u64 (x := a * (b % 4294967296) / 4294967296) (by omega) (by omega), mask32 (x := a * (b % 4294967296) / 4294967296) (by omega) (by omega), u64 (x := a * (b / 4294967296)) (by omega) (by omega)]
  rw [show a * (b % 4294967296) / 4294967296 / 4294967296 = 0 by omega, Int.zero_add, u64 (x := 0) (by omega) (by omega)]
  rw [u64 (x := a * (b % 4294967296) / 4294967296 % 4294967296 + a * (b / 4294967296)) (by omega) (by omega)]
  rw [show (a * (b % 4294967296) / 4294967296 % 4294967296 + a * (b / 4294967296)) / 4294967296 = 0 by omega, show ((0 : Int) + 0) = 0 from rfl, u64 (x := 0) (by omega) (by omega), u64 (x := a * b) (by omega) (by omega)]
theorem mn_comm' (a b : Int) : mn a b = mn b a := by unfold mn; split <;> split <;> omega
theorem mx_comm' (a b : Int) : mx a b = mx b a := by unfold mx; split <;> split <;> omega
theorem wraps_rest {fast slow days : Int} (h0 : 0 ≤ fast) (h1 : fast ≤ 255) (h2 : 0 ≤ slow) (h3 : slow ≤ 255) (h4 : 0 ≤ days) (h5 : days ≤ 255) :
    wrap64 ((wrap64 (255 - (mx 0 (wrap64 (days - fast))))) - (mx 0 (wrap64 ((wrap64 (days - fast)) - slow)))) = 255 - mx 0 (days - fast) - mx 0 (days - fast - slow) := by
  rw [w64 (x := days - fast) (by omega) (by omega), w64 (x := days - fast - slow) (by omega) (by omega)]
  have a1 : 0 ≤ mx 0 (days - fast) ∧ mx 0 (days - fast) ≤ 255 := by unfold mx; split <;> omega
  have a2 : 0 ≤ mx 0 (days - fast - slow) ∧ mx 0 (days - fast - slow) ≤ 255 := by unfold mx; split <;> omega
  rw [w64 (x := 255 - mx 0 (days - fast)) (by omega) (by omega), w64 (by omega) (by omega)]
theorem ref_pay_of (s : ByteArray) {rate fast slow count far days : Int} (r0 : 0 ≤ rate) (r1 : rate ≤ 1000) (h0 : 0 ≤ fast) (h1 : fast ≤ 255) (h2 : 0 ≤ slow) (h3 : slow ≤ 255) (c0 : 0 ≤ count) (c1 : count ≤ 1000000) (d0 : 0 ≤ far) (d1 : far ≤ 1000000) (h4 : 0 ≤ days) (h5 : days ≤ 255) :
    hinterlandref09_pay.f s rate fast slow count far days = some (payOf rate fast slow count far days) := by
  unfold hinterlandref09_pay.f hinterlandref09_MulDiv.f
  rw [wraps_rest h0 h1 h2 h3 h4 h5]
  have hb := rest_bd fast slow days
  have hp := prod_bd r0 r1 hb.1 hb.2 c0 c1 d0 d1
  rw [show mx 31 (255 - mx 0 (days - fast) - mx 0 (days - fast - slow)) = rest fast slow days from rfl]
  rw [w64 (x := rate * rest fast slow days) (by omega) (by omega), w64 (x := count * far) (by omega) (by omega), w64 (x := rate * rest fast slow days * (count * far)) (by omega) (by omega), if_neg (by decide), Int.tdiv_eq_ediv_of_nonneg hp.2.2.1, w64 (by omega) (by omega)]
  rfl
theorem cargo_paid_of (s : ByteArray) {rate fast slow count far days : Int} (r0 : 0 ≤ rate) (r1 : rate ≤ 1000) (h0 : 0 ≤ fast) (h1 : fast ≤ 255) (h2 : 0 ≤ slow) (h3 : slow ≤ 255) (c0 : 0 ≤ count) (c1 : count ≤ 1000000) (d0 : 0 ≤ far) (d1 : far ≤ 1000000) (h4 : 0 ≤ days) (h5 : days ≤ 255) :
    cargo_paid.f s rate fast slow count far days = some (payOf rate fast slow count far days) := by
  unfold cargo_paid.f
  rw [wraps_rest h0 h1 h2 h3 h4 h5, mx_comm' _ 31]
  have hb := rest_bd fast slow days
  have hp := prod_bd r0 r1 hb.1 hb.2 c0 c1 d0 d1
  rw [show mx 31 (255 - mx 0 (days - fast) - mx 0 (days - fast - slow)) = rest fast slow days from rfl]
  rw [u64 (x := rate) (by omega) (by omega), u64 (x := rest fast slow days) (by omega) (by omega), u64 (x := count) (by omega) (by omega), u64 (x := far) (by omega) (by omega), u64 (x := rate * rest fast slow days) (by omega) (by omega), u64 (x := count * far) (by omega) (by omega)]
  rw [mul64_of hp.1.1 hp.1.2 hp.2.1.1 hp.2.1.2 hp.2.2.1 hp.2.2.2]
  simp only [Option.bind_some]
  rw [if_neg (by decide)]
  have hd : bits_Div64.f 0 (rate * rest fast slow days * (count * far)) 4096 = some (rate * rest fast slow days * (count * far) / 4096, Int.tmod (rate * rest fast slow days * (count * far)) 4096) := by
    unfold bits_Div64.f
    rw [if_neg (by decide), if_neg (by decide), if_pos rfl, Int.tdiv_eq_ediv_of_nonneg hp.2.2.1, u64 (by omega) (by omega)]
  rw [hd]
  simp only [Option.bind_some]
  unfold payOf
  rw [mn_comm' _ 1000000000000, w64]
  · unfold mn; split <;> omega
  · unfold mn; split <;> omega
def payAll (s : ByteArray) (rate fast slow count far days : Int) : Int × Int :=
  if cargoesOf [⟨s, rate, fast, slow⟩] = 0 ∧ (0 ≤ count ∧ count ≤ 1000000) ∧ (0 ≤ far ∧ far ≤ 1000000) ∧ (0 ≤ days ∧ days ≤ 255) then (payOf rate fast slow count far days, 0) else (0, 1)
theorem one_ok {s : ByteArray} {rate fast slow : Int} (h : cargoesOf [⟨s, rate, fast, slow⟩] = 0) : (0 ≤ rate ∧ rate ≤ 1000) ∧ (0 ≤ fast ∧ fast ≤ 255) ∧ (0 ≤ slow ∧ slow ≤ 255) := by
  have e : cargoesOf [⟨s, rate, fast, slow⟩] = if cargoB ⟨s, rate, fast, slow⟩ = true then 0 else 1 := rfl
  rw [e] at h
  split at h
  · rename_i hc
    simp only [cargoB, Bool.and_eq_true, decide_eq_true_eq] at hc
    exact ⟨hc.2.1, hc.2.2.1, hc.2.2.2⟩
  · omega
theorem ref_Pay_ev (s : ByteArray) (hs : s.size ≤ 140737488351232) (rate fast slow count far days : Int) : Evt (fun k => hinterlandref09_Pay.f k s rate fast slow count far days) (payAll s rate fast slow count far days) := by
  unfold hinterlandref09_Pay.f
  refine Evt.bind (ref_Cargoes_ev _ (by simpa using hs)) ?_
  rw [out_of, out_of, out_of]
  simp only [Option.bind_some]
  unfold payAll
  by_cases a : cargoesOf [⟨s, rate, fast, slow⟩] = 0
  case neg => exact Evt.neg a ((Evt.const _).cast (if_neg (fun h => a h.1)).symm)
  refine Evt.pos a ?_
  by_cases b : 0 ≤ count ∧ count ≤ 1000000
  case neg => exact Evt.pos (by rw [decide_eq_false b]; rfl) ((Evt.const _).cast (if_neg (fun h => b h.2.1)).symm)
  refine Evt.neg (by rw [decide_eq_true b]; decide) ?_
  by_cases c : 0 ≤ far ∧ far ≤ 1000000
  case neg => exact Evt.pos (by rw [decide_eq_false c]; rfl) ((Evt.const _).cast (if_neg (fun h => c h.2.2.1)).symm)
  refine Evt.neg (by rw [decide_eq_true c]; decide) ?_
  by_cases d : 0 ≤ days ∧ days ≤ 255
  case neg => exact Evt.pos (by rw [decide_eq_false d]; rfl) ((Evt.const _).cast (if_neg (fun h => d h.2.2.2)).symm)
  refine Evt.neg (by rw [decide_eq_true d]; decide) ?_
  have h1 := one_ok a
  rw [ref_pay_of s h1.1.1 h1.1.2 h1.2.1.1 h1.2.1.2 h1.2.2.1 h1.2.2.2 b.1 b.2 c.1 c.2 d.1 d.2]
  exact (Evt.const _).cast (if_pos ⟨a, b, c, d⟩).symm
theorem cargo_Pay_ev (s : ByteArray) (hs : s.size ≤ 140737488351232) (rate fast slow count far days : Int) : Evt (fun k => cargo_Pay.f k s rate fast slow count far days) (payAll s rate fast slow count far days) := by
  unfold cargo_Pay.f
  refine Evt.bind (cargo_Cargoes_ev _ (by simpa using hs)) ?_
  rw [within_of, within_of, within_of]
  simp only [Option.bind_some]
  unfold payAll
  by_cases a : cargoesOf [⟨s, rate, fast, slow⟩] = 0
  case neg => exact Evt.neg a ((Evt.const _).cast (if_neg (fun h => a h.1)).symm)
  refine Evt.pos a ?_
  by_cases b : 0 ≤ count ∧ count ≤ 1000000
  case neg => exact Evt.neg (by simpa using b) ((Evt.const _).cast (if_neg (fun h => b h.2.1)).symm)
  refine Evt.pos (decide_eq_true b) ?_
  by_cases c : 0 ≤ far ∧ far ≤ 1000000
  case neg => exact Evt.neg (by simpa using c) ((Evt.const _).cast (if_neg (fun h => c h.2.2.1)).symm)
  refine Evt.pos (decide_eq_true c) ?_
  by_cases d : 0 ≤ days ∧ days ≤ 255
  case neg => exact Evt.neg (by simpa using d) ((Evt.const _).cast (if_neg (fun h => d h.2.2.2)).symm)
  refine Evt.pos (decide_eq_true d) ?_
  have h1 := one_ok a
  rw [cargo_paid_of s h1.1.1 h1.1.2 h1.2.1.1 h1.2.1.2 h1.2.2.1 h1.2.2.2 b.1 b.2 c.1 c.2 d.1 d.2]
  exact (Evt.const _).cast (if_pos ⟨a, b, c, d⟩).symm
theorem known_pay : payAll (⟨#[97]⟩ : ByteArray) 16 10 5 10 8 12 = (79, 0) := by decide +kernel
theorem known_ev : Evt (fun k => hinterlandlaw09_known.f k) true := by
  unfold hinterlandlaw09_known.f
  refine Evt.bind (cargo_Pay_ev _ (by show 1 ≤ _; decide) 16 10 5 10 8 12) ?_
  rw [known_pay]
  exact Evt.pos rfl ((Evt.const _).cast rfl)
end Go.Proofs.Ytmphplpfgjcpiaa.PCargo
/- Which loads are right; how many units of a kind they have. -/
namespace Go.Proofs.Ytmphplpfgjcpiaa.PCargo
open Go.RowKit Go.Proofs.YtmphplpfgjcpiaaW.PrintWords Go.Proofs.YtmphplpfgjcpiaaW.PrintLast Go.Proofs.YtmphplpfgjcpiaaW.PrintMore Go.Proofs.YtmphplpfgjcpiaaW.Evt
def lessB (a b : S44) : Bool := if a.f0 = b.f0 then (if a.f1 = b.f1 then (if a.f2 = b.f2 then decide (a.f3 < b.f3) else decide (a.f2 < b.f2)) else decide (a.f1 < b.f1)) else decide (a.f0 < b.f0)
def sgn (a b : Int) : Int := if a < b then -1 else if a > b then 1 else 0
theorem compare_int_of (a b : Int) : cmp_Compare_int.f a b = some (sgn a b) := by
  have e : ∀ x, cmp_isNaN_int.f x = some false := fun x => by simp [cmp_isNaN_int.f]
  unfold cmp_Compare_int.f sgn
  rw [e, e]
  simp only [Option.bind_some]
  rw [if_neg (by decide), if_neg (by decide)]
  (repeat' split) <;> rfl
def orOf : List Int → Int
  | [] => 0
  | x :: l => if x = 0 then orOf l else x
theorem rd_cons {l : List Int} {i : Int} (h0 : 0 ≤ i) (h1 : i < l.length) : l.drop i.toNat = rd l i :: l.drop (i + 1).toNat := by
  have h2 : i.toNat < l.length := by omega
  rw [List.drop_eq_getElem_cons h2, show (i + 1).toNat = i.toNat + 1 by omega]
  unfold rd
  rw [List.getD_eq_getElem?_getD, List.getElem?_eq_getElem h2]
  rfl
theorem or_loop (l : List Int) (hl : l.length ≤ 100) : ∀ (d : Nat) (i : Int), 0 ≤ i → i + d = l.length → Evt (fun k => cmp_Or_int.l0 k 0 l (l.length : Int) i) (orOf (l.drop i.toNat)) := by
  intro d
  induction d with
  | zero =>
    intro i h0 h1
    refine Evt.succ (h := _) (fun k => by rw [cmp_Or_int.l0]) ?_
    refine Evt.neg (by omega) ((Evt.const _).cast ?_)
    rw [List.drop_eq_nil_of_le (by omega)]; rfl
  | succ d ih =>
    intro i h0 h1
    refine Evt.succ (h := _) (fun k => by rw [cmp_Or_int.l0]) ?_
    refine Evt.pos (by omega) (Evt.pos h0 (Evt.pos (by omega) ?_))
    rw [w64 (x := i + 1) (by omega) (by omega), rd_cons h0 (by omega)]
    by_cases c : rd l i = 0
    · exact Evt.pos c ((ih (i + 1) (by omega) (by omega)).cast (by rw [orOf, if_pos c]))
    · exact Evt.neg c ((Evt.const _).cast (by rw [orOf, if_neg c]))
theorem or_ev (l : List Int) (hl : l.length ≤ 100) : Evt (fun k => cmp_Or_int.f k l) (orOf l) := or_loop l hl l.length 0 (by omega) (by omega)
theorem compare_ev (a b : S44) : ∃ c, Evt (fun k => cargo_compare.f k a.f0 a.f1 a.f2 a.f3 a.f4 a.f5 b.f0 b.f1 b.f2 b.f3 b.f4 b.f5) c ∧ (0 ≤ c ↔ lessB a b = false) := by
  refine ⟨orOf [sgn a.f0 b.f0, sgn a.f1 b.f1, sgn a.f2 b.f2, sgn a.f3 b.f3], ?_, ?_⟩
  · unfold cargo_compare.f
    rw [compare_int_of, compare_int_of, compare_int_of, compare_int_of]
    simp only [Option.bind_some]
    exact Evt.bind (or_ev _ (by simp)) (Evt.const _)
  · unfold lessB orOf orOf orOf orOf orOf sgn
    by_cases h0 : a.f0 = b.f0
    · rw [if_pos (by rw [if_neg (by omega), if_neg (by omega)]), if_pos h0]
      by_cases h1 : a.f1 = b.f1
      · rw [if_pos (by rw [if_neg (by omega), if_neg (by omega)]), if_pos h1]
        by_cases h2 : a.f2 = b.f2
        · rw [if_pos (by rw [if_neg (by omega), if_neg (by omega)]), if_pos h2]
          by_cases h3 : a.f3 < b.f3
          · simp [h3]
          · by_cases h4 : a.f3 > b.f3
            · simp [h3, h4]
            · simp [h3, h4]
        · by_cases h3 : a.f2 < b.f2
          · simp [h2, h3]
          · simp [h2, h3, show a.f2 > b.f2 by omega]
      · by_cases h3 : a.f1 < b.f1
        · simp [h1, h3]
        · simp [h1, h3, show a.f1 > b.f1 by omega]
    · by_cases h3 : a.f0 < b.f0
      · simp [h0, h3]
      · simp [h0, h3, show a.f0 > b.f0 by omega]
structure Sound (x : S44) : Prop where
  c0 : 1 ≤ x.f4
  c1 : x.f4 ≤ 1000000
  a0 : 0 ≤ x.f3
  a1 : x.f3 ≤ 255
  s0 : 0 ≤ x.f5
  s1 : x.f5 ≤ 1000000000000
  k0 : 0 ≤ x.f0
  k1 : x.f0 ≤ 1000000
  g0 : 0 ≤ x.f1
  g1 : x.f1 ≤ 1000000
  t0 : 0 ≤ x.f2
  t1 : x.f2 ≤ 1000000
def soundB (x : S44) : Bool := decide (1 ≤ x.f4 ∧ x.f4 ≤ 1000000) && (decide (0 ≤ x.f3 ∧ x.f3 ≤ 255) && (decide (0 ≤ x.f5 ∧ x.f5 ≤ 1000000000000) && (decide (0 ≤ x.f0 ∧ x.f0 ≤ 1000000) && (decide (0 ≤ x.f1 ∧ x.f1 ≤ 1000000) && decide (0 ≤ x.f2 ∧ x.f2 ≤ 1000000)))))
theorem soundB_iff {x : S44} : soundB x = true ↔ Sound x := by
  simp only [soundB, Bool.and_eq_true, decide_eq_true_eq]
  constructor
  · rintro ⟨h1, h2, h3, h4, h5, h6⟩
    exact ⟨h1.1, h1.2, h2.1, h2.2, h3.1, h3.2, h4.1, h4.2, h5.1, h5.2, h6.1, h6.2⟩
  · intro h
    exact ⟨⟨h.c0, h.c1⟩, ⟨h.a0, h.a1⟩, ⟨h.s0, h.s1⟩, ⟨h.k0, h.k1⟩, ⟨h.g0, h.g1⟩, h.t0, h.t1⟩
theorem sound_of (x : S44) : cargo_sound.f x.f0 x.f1 x.f2 x.f3 x.f4 x.f5 = some (soundB x) := by
  unfold cargo_sound.f soundB
  rw [within_of, within_of, within_of, within_of, within_of]
  simp only [Option.bind_some]
  by_cases h1 : 1 ≤ x.f4
  · rw [if_pos (show x.f4 ≥ 1 from h1)]
    by_cases h2 : x.f4 ≤ 1000000
    · rw [if_pos h2, decide_eq_true (p := 1 ≤ x.f4 ∧ x.f4 ≤ 1000000) ⟨h1, h2⟩, Bool.true_and]
      cases decide (0 ≤ x.f3 ∧ x.f3 ≤ 255) <;> cases decide (0 ≤ x.f5 ∧ x.f5 ≤ 1000000000000) <;> cases decide (0 ≤ x.f0 ∧ x.f0 ≤ 1000000) <;> cases decide (0 ≤ x.f1 ∧ x.f1 ≤ 1000000) <;> rfl
    · rw [if_neg h2, decide_eq_false (p := 1 ≤ x.f4 ∧ x.f4 ≤ 1000000) (fun h => h2 h.2)]; rfl
  · rw [if_neg (show ¬ x.f4 ≥ 1 from h1), decide_eq_false (p := 1 ≤ x.f4 ∧ x.f4 ≤ 1000000) (fun h => h1 h.1)]; rfl
def okB (l : List S44) (i : Int) : Bool := soundB (rd_T44 l i) && (decide (i ≤ 0) || lessB (rd_T44 l (i - 1)) (rd_T44 l i))
def lscan (l : List S44) : Nat → Int → Int
  | 0, _ => 0
  | d + 1, i => if okB l i = true then lscan l d (i + 1) else 1
def loadOf (l : List S44) : Int := if (l.length : Int) > 200 then 4 else lscan l l.length 0
theorem cargo_lscan (l : List S44) (hl : l.length ≤ 200) : ∀ (d : Nat) (i : Int), 0 ≤ i → i + d = l.length → Evt (fun k => cargo_Validate.l0 k l l (l.length : Int) i) (lscan l d i) := by
  intro d
  induction d with
  | zero =>
    intro i h0 h1
    refine Evt.succ (h := _) (fun k => by rw [cargo_Validate.l0]) ?_
    exact Evt.neg (by omega) (Evt.const _)
  | succ d ih =>
    intro i h0 h1
    refine Evt.succ (h := _) (fun k => by rw [cargo_Validate.l0]) ?_
    refine Evt.pos (by omega) (Evt.pos h0 (Evt.pos (by omega) ?_))
    rw [w64 (x := i + 1) (by omega) (by omega), w64 (x := i - 1) (by omega) (by omega), sound_of]
    simp only [Option.bind_some]
    rw [lscan]
    unfold okB
    by_cases s : soundB (rd_T44 l i) = true
    case neg =>
      refine Evt.neg s ((Evt.const _).cast ?_)
      rw [Bool.not_eq_true] at s
      rw [s, Bool.false_and]; rfl
    refine Evt.pos s ?_
    rw [s, Bool.true_and]
    by_cases c : i > 0
    · refine Evt.pos c (Evt.pos (by omega) (Evt.pos (by omega) ?_))
      obtain ⟨v, hv, hw⟩ := compare_ev (rd_T44 l (i - 1)) (rd_T44 l i)
      refine Evt.bind hv ?_
      rw [decide_eq_false (p := i ≤ 0) (by omega), Bool.false_or]
      by_cases e : v ≥ 0
      · refine Evt.pos e ((Evt.const _).cast ?_)
        rw [hw.1 e]; rfl
      · refine Evt.neg e ((ih (i + 1) (by omega) (by omega)).cast ?_)
        rw [if_pos (by
          cases hq : lessB (rd_T44 l (i - 1)) (rd_T44 l i) with
          | true => rfl
          | false => exact absurd (hw.2 hq) e)]
    · refine Evt.neg c ((ih (i + 1) (by omega) (by omega)).cast ?_)
      rw [decide_eq_true (p := i ≤ 0) (by omega), Bool.true_or, if_pos rfl]
theorem cargo_Validate_ev (l : List S44) : Evt (fun k => cargo_Validate.f k l) (loadOf l) := by
  unfold cargo_Validate.f loadOf
  by_cases c : (l.length : Int) > 200
  · exact Evt.pos c ((Evt.const _).cast (if_pos c).symm)
  · exact Evt.neg c ((cargo_lscan l (by omega) l.length 0 (by omega) (by omega)).cast (if_neg c).symm)
theorem lscan_zero (l : List S44) : ∀ (d : Nat) (i : Int), lscan l d i = 0 → ∀ j, i ≤ j → j < i + d → okB l j = true
  | 0, i, _, j, h1, h2 => by omega
  | d + 1, i, h, j, h1, h2 => by
    unfold lscan at h
    split at h
    · rename_i hg
      by_cases e : j = i
      · rw [e]; exact hg
      · exact lscan_zero l d (i + 1) h j (by omega) (by omega)
    · omega
/-- A right load: at most 200 parcels, each of them sound. -/
theorem load_ok {l : List S44} (h : loadOf l = 0) : l.length ≤ 200 ∧ ∀ i : Int, 0 ≤ i → i < l.length → Sound (rd_T44 l i) := by
  unfold loadOf at h
  split at h
  · omega
  · refine ⟨by omega, fun i h0 h1 => ?_⟩
    have := lscan_zero l l.length 0 h i h0 (by omega)
    unfold okB at this
    rw [Bool.and_eq_true] at this
    exact soundB_iff.1 this.1
end Go.Proofs.Ytmphplpfgjcpiaa.PCargo
/- What is paid for a load: the errors, the way, the sums. -/
namespace Go.Proofs.Ytmphplpfgjcpiaa.PCargo
open Go.RowKit Go.Proofs.YtmphplpfgjcpiaaW.PrintWords Go.Proofs.YtmphplpfgjcpiaaW.PrintLast Go.Proofs.YtmphplpfgjcpiaaW.PrintMore Go.Proofs.YtmphplpfgjcpiaaW.Evt
theorem errno_loop (l : List Int) (hl : l.length ≤ 100) : ∀ (d : Nat) (i : Int), 0 ≤ i → i + d = l.length → Evt (fun k => api_Errno.l0 k 0 l (l.length : Int) i) (orOf (l.drop i.toNat)) := by
  intro d
  induction d with
  | zero =>
    intro i h0 h1
    refine Evt.succ (h := _) (fun k => by rw [api_Errno.l0]) ?_
    refine Evt.neg (by omega) ((Evt.const _).cast ?_)
    rw [List.drop_eq_nil_of_le (by omega)]; rfl
  | succ d ih =>
    intro i h0 h1
    refine Evt.succ (h := _) (fun k => by rw [api_Errno.l0]) ?_
    refine Evt.pos (by omega) (Evt.pos h0 (Evt.pos (by omega) ?_))
    rw [w64 (x := i + 1) (by omega) (by omega), rd_cons h0 (by omega)]
    by_cases c : rd l i = 0
    · exact Evt.pos c ((ih (i + 1) (by omega) (by omega)).cast (by rw [orOf, if_pos c]))
    · exact Evt.neg c ((Evt.const _).cast (by rw [orOf, if_neg c]))
theorem errno_ev (l : List Int) (hl : l.length ≤ 100) : Evt (fun k => api_Errno.f k l) (orOf l) := errno_loop l hl l.length 0 (by omega) (by omega)
def kscan (m : Int) (l : List S44) (w t : Int) : Nat → Int → Int
  | 0, _ => if 4 ≤ w ∧ w ≤ 32 ∧ 0 ≤ t ∧ t ≤ 1000000 then 0 else 1
  | d + 1, i => if (rd_T44 l i).f0 ≥ m then 2 else kscan m l w t d (i + 1)
def judgeOf (cs : List S23) (l : List S44) (w t : Int) : Int := if cargoesOf cs = 0 then (if loadOf l = 0 then kscan (cs.length : Int) l w t l.length 0 else loadOf l) else cargoesOf cs
theorem cargo_kscan (cs : List S23) (l : List S44) (w t : Int) (hl : l.length ≤ 200) : ∀ (d : Nat) (i : Int), 0 ≤ i → i + d = l.length → Evt (fun k => cargo_check.l0 k cs w t l (l.length : Int) i) (kscan (cs.length : Int) l w t d i) := by
  intro d
  induction d with
  | zero =>
    intro i h0 h1
    refine Evt.succ (h := _) (fun k => by rw [cargo_check.l0]) ?_
    refine Evt.neg (by omega) ?_
    rw [within_of]
    simp only [Option.bind_some]
    rw [kscan]
    by_cases a : w < 4
    · exact Evt.pos a ((Evt.const _).cast (if_neg (by omega)).symm)
    refine Evt.neg a ?_
    by_cases b : w > 32
    · exact Evt.pos b ((Evt.const _).cast (if_neg (by omega)).symm)
    refine Evt.neg b ?_
    by_cases c : 0 ≤ t ∧ t ≤ 1000000
    · exact Evt.pos (decide_eq_true c) ((Evt.const _).cast (if_pos (by omega)).symm)
    · exact Evt.neg (by simpa using c) ((Evt.const _).cast (if_neg (by omega)).symm)
  | succ d ih =>
    intro i h0 h1
    refine Evt.succ (h := _) (fun k => by rw [cargo_check.l0]) ?_
    refine Evt.pos (by omega) (Evt.pos h0 (Evt.pos (by omega) ?_))
    rw [w64 (x := i + 1) (by omega) (by omega), kscan]
    by_cases c : (rd_T44 l i).f0 ≥ (cs.length : Int)
    · exact Evt.pos c ((Evt.const _).cast (if_pos c).symm)
    · exact Evt.neg c ((ih (i + 1) (by omega) (by omega)).cast (if_neg c).symm)
theorem cargo_check_ev (cs : List S23) (hs : ∀ x ∈ cs, x.f0.size ≤ 140737488351232) (l : List S44) (w t : Int) : Evt (fun k => cargo_check.f k cs l w t) (judgeOf cs l w t) := by
  unfold cargo_check.f judgeOf
  refine Evt.bind (cargo_Cargoes_ev cs hs) (Evt.bind (cargo_Validate_ev l) (Evt.bind (errno_ev _ (by simp)) ?_))
  by_cases c : cargoesOf cs = 0
  · by_cases e : loadOf l = 0
    · refine Evt.pos (by simp [orOf, c, e]) ((cargo_kscan cs l w t (load_ok e).1 l.length 0 (by omega) (by omega)).cast ((if_pos c).trans (if_pos e)).symm)
    · refine Evt.neg (by simp [orOf, c, e]) ((Evt.const _).cast ?_)
      rw [if_pos c, if_neg e]; simp [orOf, c, e]
  · refine Evt.neg (by simp [orOf, c]) ((Evt.const _).cast ?_)
    rw [if_neg c]; simp [orOf, c]
theorem kscan_zero (m : Int) (l : List S44) (w t : Int) : ∀ (d : Nat) (i : Int), kscan m l w t d i = 0 → (4 ≤ w ∧ w ≤ 32 ∧ 0 ≤ t ∧ t ≤ 1000000) ∧ ∀ j, i ≤ j → j < i + d → (rd_T44 l j).f0 < m
  | 0, i, h => by
    unfold kscan at h
    split at h
    · rename_i hc
      exact ⟨hc, fun j h1 h2 => by omega⟩
    · omega
  | d + 1, i, h => by
    unfold kscan at h
    split at h
    · omega
    · rename_i hc
      obtain ⟨h1, h2⟩ := kscan_zero m l w t d (i + 1) h
      refine ⟨h1, fun j h3 h4 => ?_⟩
      by_cases e : j = i
      · rw [e]; omega
      · exact h2 j (by omega) (by omega)
theorem cscan_zero (l : List S23) : ∀ (d : Nat) (i : Int), cscan l d i = 0 → ∀ j, i ≤ j → j < i + d → cargoB (rd_T23 l j) = true
  | 0, i, _, j, h1, h2 => by omega
  | d + 1, i, h, j, h1, h2 => by
    unfold cscan at h
    split at h
    · rename_i hg
      by_cases e : j = i
      · rw [e]; exact hg
      · exact cscan_zero l d (i + 1) h j (by omega) (by omega)
    · omega
/-- All that a load that is delivered meets. -/
structure Meets (cs : List S23) (l : List S44) (w t : Int) : Prop where
  len : l.length ≤ 200
  sound : ∀ i : Int, 0 ≤ i → i < l.length → Sound (rd_T44 l i)
  w4 : 4 ≤ w
  w32 : w ≤ 32
  t0 : 0 ≤ t
  t1 : t ≤ 1000000
  kind : ∀ i : Int, 0 ≤ i → i < l.length → (rd_T44 l i).f0 < cs.length
  rate : ∀ j : Int, 0 ≤ j → j < cs.length → (0 ≤ (rd_T23 cs j).f1 ∧ (rd_T23 cs j).f1 ≤ 1000) ∧ (0 ≤ (rd_T23 cs j).f2 ∧ (rd_T23 cs j).f2 ≤ 255) ∧ (0 ≤ (rd_T23 cs j).f3 ∧ (rd_T23 cs j).f3 ≤ 255)
theorem meets_of {cs : List S23} {l : List S44} {w t : Int} (h : judgeOf cs l w t = 0) : Meets cs l w t := by
  unfold judgeOf at h
  by_cases c : cargoesOf cs = 0
  case neg => rw [if_neg c] at h; exact absurd h c
  rw [if_pos c] at h
  by_cases e : loadOf l = 0
  case neg => rw [if_neg e] at h; exact absurd h e
  rw [if_pos e] at h
  have h1 := load_ok e
  have h2 := kscan_zero _ _ _ _ _ _ h
  refine ⟨h1.1, h1.2, h2.1.1, h2.1.2.1, h2.1.2.2.1, h2.1.2.2.2, fun i h3 h4 => h2.2 i h3 (by omega), fun j h3 h4 => ?_⟩
  unfold cargoesOf at c
  split at c
  · omega
  · have := cscan_zero cs cs.length 0 c j h3 (by omega)
    simp only [cargoB, Bool.and_eq_true, decide_eq_true_eq] at this
    exact ⟨this.2.1, this.2.2.1, this.2.2.2⟩
def farOf (w a b : Int) : Int := mx (a % w - b % w) (-(a % w - b % w)) + mx (a / w - b / w) (-(a / w - b / w))
theorem far_bd {w a b : Int} (w4 : 4 ≤ w) (w32 : w ≤ 32) (a0 : 0 ≤ a) (a1 : a ≤ 1000000) (b0 : 0 ≤ b) (b1 : b ≤ 1000000) :
    (0 ≤ a % w ∧ a % w < w) ∧ (0 ≤ b % w ∧ b % w < w) ∧ (0 ≤ a / w ∧ a / w ≤ 250000) ∧ (0 ≤ b / w ∧ b / w ≤ 250000) ∧ 0 ≤ farOf w a b ∧ farOf w a b ≤ 1000000 := by
  have h1 := Int.emod_nonneg a (show w ≠ 0 by omega)
  have h2 := Int.emod_lt_of_pos a (show 0 < w by omega)
  have h3 := Int.emod_nonneg b (show w ≠ 0 by omega)
  have h4 := Int.emod_lt_of_pos b (show 0 < w by omega)
  have h5 := Int.ediv_nonneg a0 (show 0 ≤ w by omega)
  have h6 := Int.ediv_nonneg b0 (show 0 ≤ w by omega)
  have key : ∀ x : Int, 0 ≤ x → x ≤ 1000000 → x / w ≤ 250000 := fun x x0 x1 => by
    have h7 : x / w ≤ x / 4 := by
      apply Int.le_ediv_of_mul_le (by omega)
      have h8 := Int.mul_ediv_add_emod x w
      have h9 := Int.emod_nonneg x (show w ≠ 0 by omega)
      have h10 : x / w * 4 ≤ x / w * w := Int.mul_le_mul_of_nonneg_left w4 (Int.ediv_nonneg x0 (by omega))
      rw [Int.mul_comm (x / w) w] at h10
      omega
    omega
  have h7 := key a a0 a1
  have h8 := key b b0 b1
  refine ⟨⟨h1, h2⟩, ⟨h3, h4⟩, ⟨h5, h7⟩, ⟨h6, h8⟩, ?_⟩
  unfold farOf mx
  constructor <;> (repeat' split) <;> omega
theorem far_terms {w a b : Int} (w4 : 4 ≤ w) (w32 : w ≤ 32) (a0 : 0 ≤ a) (a1 : a ≤ 1000000) (b0 : 0 ≤ b) (b1 : b ≤ 1000000) :
    wrap64 ((mx (wrap64 ((Int.tmod a w) - (Int.tmod b w))) (wrap64 (-(wrap64 ((Int.tmod a w) - (Int.tmod b w)))))) + (mx (wrap64 ((wrap64 (Int.tdiv a w)) - (wrap64 (Int.tdiv b w)))) (wrap64 (-(wrap64 ((wrap64 (Int.tdiv a w)) - (wrap64 (Int.tdiv b w)))))))) = farOf w a b := by
  obtain ⟨h1, h2, h3, h4, h5, h6⟩ := far_bd w4 w32 a0 a1 b0 b1
  rw [Int.tmod_eq_emod_of_nonneg a0, Int.tmod_eq_emod_of_nonneg b0, Int.tdiv_eq_ediv_of_nonneg a0, Int.tdiv_eq_ediv_of_nonneg b0]
  rw [w64 (x := a / w) (by omega) (by omega), w64 (x := b / w) (by omega) (by omega), w64 (x := a % w - b % w) (by omega) (by omega), w64 (x := -(a % w - b % w)) (by omega) (by omega), w64 (x := a / w - b / w) (by omega) (by omega), w64 (x := -(a / w - b / w)) (by omega) (by omega)]
  have h7 : mx (a % w - b % w) (-(a % w - b % w)) + mx (a / w - b / w) (-(a / w - b / w)) = farOf w a b := rfl
  rw [h7, w64 (by omega) (by omega)]
theorem cargo_far {w a b : Int} (w4 : 4 ≤ w) (w32 : w ≤ 32) (a0 : 0 ≤ a) (a1 : a ≤ 1000000) (b0 : 0 ≤ b) (b1 : b ≤ 1000000) : cargo_steps.f w a b = some (farOf w a b) := by
  unfold cargo_steps.f
  rw [if_neg (by omega), far_terms w4 w32 a0 a1 b0 b1]
/-- What is paid for parcel x. -/
def paidFor (cs : List S23) (w t : Int) (x : S44) : Int := payOf (rd_T23 cs x.f0).f1 (rd_T23 cs x.f0).f2 (rd_T23 cs x.f0).f3 x.f4 (farOf w x.f2 t) x.f3
theorem pay_bd {rate fast slow count far days : Int} (r0 : 0 ≤ rate) (r1 : rate ≤ 1000) (c0 : 0 ≤ count) (c1 : count ≤ 1000000) (d0 : 0 ≤ far) (d1 : far ≤ 1000000) (_ : 0 ≤ fast) (_ : 0 ≤ slow) (_ : 0 ≤ days) (_ : days ≤ 255) : 0 ≤ payOf rate fast slow count far days ∧ payOf rate fast slow count far days ≤ 1000000000000 := by
  have hb : 31 ≤ rest fast slow days ∧ rest fast slow days ≤ 255 := by
    unfold rest mx
    constructor <;> (repeat' split) <;> omega
  have hp := prod_bd r0 r1 hb.1 hb.2 c0 c1 d0 d1
  unfold payOf mn
  split <;> omega
end Go.Proofs.Ytmphplpfgjcpiaa.PCargo
/- cargo.Transfer: what it makes of a load, and what it grows by. -/
namespace Go.Proofs.Ytmphplpfgjcpiaa.PCargo
open Go.RowKit Go.Proofs.YtmphplpfgjcpiaaW.PrintWords Go.Proofs.YtmphplpfgjcpiaaW.PrintLast Go.Proofs.YtmphplpfgjcpiaaW.PrintMore Go.Proofs.YtmphplpfgjcpiaaW.Evt
theorem rd44_at (done : List S44) (x : S44) (r : List S44) : rd_T44 (done ++ x :: r) (done.length : Int) = x := by simp [rd_T44]
theorem rd44_get {l : List S44} {i : Nat} (h : i < l.length) : rd_T44 l (i : Int) = l[i] := by simp [rd_T44, h]
theorem set44_at (done : List S44) (x y : S44) (r : List S44) : (done ++ x :: r).set ((done.length : Int)).toNat y = done ++ y :: r := by simp
/-- What a parcel is after the transfer, and by how much its share has grown. -/
def up (cs : List S23) (w t : Int) (x : S44) : S44 := ⟨x.f0, x.f1, x.f2, x.f3, x.f4, mx x.f5 (paidFor cs w t x)⟩
def grow (cs : List S23) (w t : Int) (x : S44) : Int := mx x.f5 (paidFor cs w t x) - x.f5
def tot (cs : List S23) (w t : Int) : List S44 → Int
  | [] => 0
  | x :: r => grow cs w t x + tot cs w t r
/-- A parcel that may be paid for. -/
structure Due (cs : List S23) (x : S44) : Prop where
  sound : Sound x
  kind : x.f0 < cs.length
  rate : (0 ≤ (rd_T23 cs x.f0).f1 ∧ (rd_T23 cs x.f0).f1 ≤ 1000) ∧ (0 ≤ (rd_T23 cs x.f0).f2 ∧ (rd_T23 cs x.f0).f2 ≤ 255) ∧ (0 ≤ (rd_T23 cs x.f0).f3 ∧ (rd_T23 cs x.f0).f3 ≤ 255)
theorem due_of {cs : List S23} {l : List S44} {w t : Int} (hm : Meets cs l w t) : ∀ x ∈ l, Due cs x := by
  intro x hx
  obtain ⟨i, hi, rfl⟩ := List.mem_iff_getElem.1 hx
  have e := rd44_get hi
  have h1 := hm.sound i (by omega) (by omega)
  have h2 := hm.kind i (by omega) (by omega)
  rw [e] at h1 h2
  exact ⟨h1, h2, hm.rate _ h1.k0 h2⟩
structure Map (w t : Int) : Prop where
  w4 : 4 ≤ w
  w32 : w ≤ 32
  t0 : 0 ≤ t
  t1 : t ≤ 1000000
theorem paid_bd {cs : List S23} {w t : Int} {x : S44} (hw : Map w t) (hd : Due cs x) : 0 ≤ paidFor cs w t x ∧ paidFor cs w t x ≤ 1000000000000 := by
  have hs := hd.sound
  have hr := hd.rate
  have c0 := hs.c0
  have hfb := far_bd hw.w4 hw.w32 hs.t0 hs.t1 hw.t0 hw.t1
  exact pay_bd hr.1.1 hr.1.2 (by omega) hs.c1 hfb.2.2.2.2.1 hfb.2.2.2.2.2 hr.2.1.1 hr.2.2.1 hs.a0 hs.a1
theorem grow_bd {cs : List S23} {w t : Int} {x : S44} (hw : Map w t) (hd : Due cs x) : 0 ≤ grow cs w t x ∧ grow cs w t x ≤ 1000000000000 := by
  have h := paid_bd hw hd
  have s0 := hd.sound.s0
  have s1 := hd.sound.s1
  unfold grow mx
  split <;> omega
theorem tot_nn {cs : List S23} {w t : Int} (hw : Map w t) : ∀ (l : List S44), (∀ x ∈ l, Due cs x) → 0 ≤ tot cs w t l
  | [], _ => by simp [tot]
  | x :: r, h => by
    have h1 := grow_bd hw (h x (by simp))
    have h2 := tot_nn hw r (fun y hy => h y (by simp [hy]))
    rw [tot]; omega
def moved (cs : List S23) (w t : Int) (done rest : List S44) (s : Int) : List S44 × Int × Int := if s + tot cs w t rest > 1000000000000 then ([], 0, 10) else (done ++ rest.map (up cs w t), s + tot cs w t rest, 0)
theorem cargo_moved {cs : List S23} {w t : Int} (hw : Map w t) : ∀ (rest done : List S44) (s : Int), (∀ x ∈ rest, Due cs x) → done.length + rest.length ≤ 200 → 0 ≤ s → s ≤ 1000000000000 → Evt (fun k => cargo_Transfer.l0 k cs w t s (done ++ rest) ((done ++ rest).length : Int) (done.length : Int)) (moved cs w t done rest s)
  | [], done, s, _, _, h0, h1 => by
    refine Evt.succ (h := _) (fun k => by rw [cargo_Transfer.l0]) ?_
    refine Evt.neg (by simp) ((Evt.const _).cast ?_)
    unfold moved
    rw [if_neg (by simp [tot]; omega)]
    simp [tot]
  | x :: r, done, s, hd, hl, h0, h1 => by
    refine Evt.succ (h := _) (fun k => by rw [cargo_Transfer.l0]) ?_
    have hx := hd x (by simp)
    have hs := hx.sound
    have hr := hx.rate
    have c0 := hs.c0
    have s0 := hs.s0
    have s1 := hs.s1
    have hll : ((done ++ x :: r).length : Int) = done.length + r.length + 1 := by simp; omega
    have hl2 : (done.length : Int) + r.length + 1 ≤ 200 := by simp at hl; omega
    have hfb := far_bd hw.w4 hw.w32 hs.t0 hs.t1 hw.t0 hw.t1
    have hp := paid_bd hw hx
    have hg := grow_bd hw hx
    have ht := tot_nn hw r (fun y hy => hd y (by simp [hy]))
    refine Evt.pos (by omega) (Evt.pos (by omega) (Evt.pos (by omega) ?_))
    rw [rd44_at]
    refine Evt.pos hs.k0 (Evt.pos hx.kind ?_)
    rw [cargo_far hw.w4 hw.w32 hs.t0 hs.t1 hw.t0 hw.t1]
    simp only [Option.bind_some]
    rw [cargo_paid_of _ hr.1.1 hr.1.2 hr.2.1.1 hr.2.1.2 hr.2.2.1 hr.2.2.2 (by omega) hs.c1 hfb.2.2.2.2.1 hfb.2.2.2.2.2 hs.a0 hs.a1]
    simp only [Option.bind_some]
    rw [show payOf (rd_T23 cs x.f0).f1 (rd_T23 cs x.f0).f2 (rd_T23 cs x.f0).f3 x.f4 (farOf w x.f2 t) x.f3 = paidFor cs w t x from rfl, set44_at, rd44_at]
    rw [show mx x.f5 (paidFor cs w t x) - x.f5 = grow cs w t x from rfl, w64 (x := grow cs w t x) (by omega) (by omega), w64 (x := s + grow cs w t x) (by omega) (by omega), w64 (x := (done.length : Int) + 1) (by omega) (by omega)]
    by_cases c : s + grow cs w t x > 1000000000000
    · refine Evt.pos c ((Evt.const _).cast ?_)
      unfold moved
      rw [if_pos (by rw [tot]; omega)]
    · refine Evt.neg c ?_
      have ih := cargo_moved hw r (done ++ [up cs w t x]) (s + grow cs w t x) (fun y hy => hd y (by simp [hy])) (by simp at hl ⊢; omega) (by omega) (by omega)
      have e1 : done ++ [up cs w t x] ++ r = done ++ up cs w t x :: r := by simp
      have e2 : ((done ++ [up cs w t x]).length : Int) = (done.length : Int) + 1 := by simp
      have e3 : ((done ++ x :: r).length : Int) = ((done ++ up cs w t x :: r).length : Int) := by simp
      rw [e1, e2] at ih
      rw [e3]
      refine ih.cast ?_
      unfold moved
      rw [tot, show s + grow cs w t x + tot cs w t r = s + (grow cs w t x + tot cs w t r) by omega]
      simp
theorem clone_of {l : List S44} (h : l.length ≤ 200) : api_Parcel_55.f l = some l := by
  unfold api_Parcel_55.f
  simp
  omega
def transferOf (cs : List S23) (l : List S44) (w t : Int) : List S44 × Int × Int := if judgeOf cs l w t = 0 then moved cs w t [] l 0 else ([], 0, judgeOf cs l w t)
theorem map_of {cs : List S23} {l : List S44} {w t : Int} (hm : Meets cs l w t) : Map w t := ⟨hm.w4, hm.w32, hm.t0, hm.t1⟩
theorem cargo_Transfer_ev (cs : List S23) (hs : ∀ x ∈ cs, x.f0.size ≤ 140737488351232) (l : List S44) (w t : Int) : Evt (fun k => cargo_Transfer.f k cs l w t) (transferOf cs l w t) := by
  unfold cargo_Transfer.f transferOf
  refine Evt.bind (cargo_check_ev cs hs l w t) ?_
  by_cases e : judgeOf cs l w t = 0
  · have hm := meets_of e
    refine Evt.pos e ?_
    rw [clone_of hm.len]
    simp only [Option.bind_some]
    have h := cargo_moved (map_of hm) l [] 0 (due_of hm) (by simpa using hm.len) (by omega) (by omega)
    rw [if_pos e]
    exact h
  · refine Evt.neg e ((Evt.const _).cast (if_neg e).symm)
theorem same_loop (l : List S44) (hl : l.length ≤ 200) : ∀ (d : Nat) (i : Int), 0 ≤ i → i + d = l.length → Evt (fun k => api_Parcel_30.l0 k l l i) true
  | 0, i, h0, h1 => by
    refine Evt.succ (h := _) (fun k => by rw [api_Parcel_30.l0]) ?_
    exact Evt.neg (by omega) (Evt.const _)
  | d + 1, i, h0, h1 => by
    refine Evt.succ (h := _) (fun k => by rw [api_Parcel_30.l0]) ?_
    refine Evt.pos (by omega) (Evt.pos h0 (Evt.pos (by omega) ?_))
    refine Evt.neg (by simp) ?_
    rw [w64 (x := i + 1) (by omega) (by omega)]
    exact same_loop l hl d (i + 1) (by omega) (by omega)
theorem same_ev (l : List S44) (hl : l.length ≤ 200) : Evt (fun k => api_Parcel_30.f k l l) true := by
  unfold api_Parcel_30.f
  exact Evt.pos rfl (same_loop l hl l.length 0 (by omega) (by omega))
end Go.Proofs.Ytmphplpfgjcpiaa.PCargo
/- What the reference tells of loads, and of what is asked of them. -/
namespace Go.Proofs.Ytmphplpfgjcpiaa.PCargo
open Go.RowKit Go.Proofs.YtmphplpfgjcpiaaW.PrintWords Go.Proofs.YtmphplpfgjcpiaaW.PrintLast Go.Proofs.YtmphplpfgjcpiaaW.PrintMore Go.Proofs.YtmphplpfgjcpiaaW.Evt
theorem less_of (a b : S44) : hinterlandref09_less.f a.f0 a.f1 a.f2 a.f3 a.f4 a.f5 b.f0 b.f1 b.f2 b.f3 b.f4 b.f5 = some (lessB a b) := by
  unfold hinterlandref09_less.f lessB
  (repeat' split) <;> rfl
theorem ref_tail {g : Nat → Option Int} {r : Int} (x : S44) (hg : Evt g r) : Evt (fun k => (if (x.f4) < 1 then (some 1) else (if (x.f4) > 1000000 then (some 1) else ((hinterlandref09_Out.f (x.f3) 255).bind fun t172 => (if t172 = true then (some 1) else ((hinterlandref09_Out.f (x.f5) 1000000000000).bind fun t173 => (if t173 = true then (some 1) else ((hinterlandref09_Out.f (x.f0) 1000000).bind fun t174 => (if t174 = true then (some 1) else ((hinterlandref09_Out.f (x.f1) 1000000).bind fun t175 => (if t175 = true then (some 1) else ((hinterlandref09_Out.f (x.f2) 1000000).bind fun t176 => (if t176 = true then (some 1) else g k))))))))))))) (if soundB x = true then r else 1) := by
  rw [out_of, out_of, out_of, out_of, out_of]
  simp only [Option.bind_some]
  have no : ¬ Sound x → Evt (fun _ => some (1 : Int)) (if soundB x = true then r else 1) := fun h => (Evt.const _).cast (by rw [if_neg (fun e => h (soundB_iff.1 e))])
  refine Evt.ite (fun h => no (fun s => by have := s.c0; omega)) (fun h1 => Evt.ite (fun h => no (fun s => by have := s.c1; omega)) (fun h2 => ?_))
  refine Evt.ite (fun h => no (fun s => by have := s.a0; have := s.a1; simp at h; omega)) (fun h3 => ?_)
  refine Evt.ite (fun h => no (fun s => by have := s.s0; have := s.s1; simp at h; omega)) (fun h4 => ?_)
  refine Evt.ite (fun h => no (fun s => by have := s.k0; have := s.k1; simp at h; omega)) (fun h5 => ?_)
  refine Evt.ite (fun h => no (fun s => by have := s.g0; have := s.g1; simp at h; omega)) (fun h6 => ?_)
  refine Evt.ite (fun h => no (fun s => by have := s.t0; have := s.t1; simp at h; omega)) (fun h7 => ?_)
  refine hg.cast ?_
  simp at h3 h4 h5 h6 h7
  rw [if_pos (soundB_iff.2 ⟨by omega, by omega, h3.1, h3.2, h4.1, h4.2, h5.1, h5.2, h6.1, h6.2, h7.1, h7.2⟩)]
theorem ref_lscan (l : List S44) (hl : l.length ≤ 200) : ∀ (d : Nat) (i : Int), 0 ≤ i → i + d = l.length → Evt (fun k => hinterlandref09_Validate.l0 k l i) (lscan l d i) := by
  intro d
  induction d with
  | zero =>
    intro i h0 h1
    refine Evt.succ (h := _) (fun k => by rw [hinterlandref09_Validate.l0]) ?_
    exact Evt.neg (by omega) (Evt.const _)
  | succ d ih =>
    intro i h0 h1
    refine Evt.succ (h := _) (fun k => by rw [hinterlandref09_Validate.l0]) ?_
    refine Evt.pos (by omega) (Evt.pos h0 ?_)
    rw [w64 (x := i + 1) (by omega) (by omega), w64 (x := i - 1) (by omega) (by omega)]
    rw [lscan]
    unfold okB
    by_cases c : i > 0
    · refine Evt.pos c (Evt.pos (by omega) (Evt.pos (by omega) ?_))
      rw [less_of]
      simp only [Option.bind_some]
      rw [decide_eq_false (p := i ≤ 0) (by omega), Bool.false_or]
      by_cases e : lessB (rd_T44 l (i - 1)) (rd_T44 l i) = true
      · refine Evt.pos e ((ref_tail (rd_T44 l i) (ih (i + 1) (by omega) (by omega))).cast ?_)
        rw [e, Bool.and_true]
      · refine Evt.neg e ((Evt.const _).cast ?_)
        rw [Bool.not_eq_true] at e
        rw [e, Bool.and_false]; rfl
    · refine Evt.neg c ((ref_tail (rd_T44 l i) (ih (i + 1) (by omega) (by omega))).cast ?_)
      rw [decide_eq_true (p := i ≤ 0) (by omega), Bool.true_or, Bool.and_true]
theorem ref_Validate_ev (l : List S44) : Evt (fun k => hinterlandref09_Validate.f k l) (loadOf l) := by
  unfold hinterlandref09_Validate.f loadOf
  by_cases c : (l.length : Int) > 200
  · exact Evt.pos c ((Evt.const _).cast (if_pos c).symm)
  · exact Evt.neg c ((ref_lscan l (by omega) l.length 0 (by omega) (by omega)).cast (if_neg c).symm)
theorem ref_kscan (cs : List S23) (l : List S44) (w t : Int) (hl : l.length ≤ 200) : ∀ (d : Nat) (i : Int), 0 ≤ i → i + d = l.length → Evt (fun k => hinterlandref09_judge.l0 k cs l w t i) (kscan (cs.length : Int) l w t d i) := by
  intro d
  induction d with
  | zero =>
    intro i h0 h1
    refine Evt.succ (h := _) (fun k => by rw [hinterlandref09_judge.l0]) ?_
    refine Evt.neg (by omega) ?_
    rw [out_of]
    simp only [Option.bind_some]
    rw [kscan]
    by_cases a : w < 4
    · exact Evt.pos a ((Evt.const _).cast (if_neg (by omega)).symm)
    refine Evt.neg a ?_
    by_cases b : w > 32
    · exact Evt.pos b ((Evt.const _).cast (if_neg (by omega)).symm)
    refine Evt.neg b ?_
    by_cases c : 0 ≤ t ∧ t ≤ 1000000
    · rw [decide_eq_true c]; exact Evt.neg (by decide) ((Evt.const _).cast (if_pos (by omega)).symm)
    · rw [decide_eq_false c]; exact Evt.pos rfl ((Evt.const _).cast (if_neg (by omega)).symm)
  | succ d ih =>
    intro i h0 h1
    refine Evt.succ (h := _) (fun k => by rw [hinterlandref09_judge.l0]) ?_
    refine Evt.pos (by omega) (Evt.pos h0 ?_)
    rw [w64 (x := i + 1) (by omega) (by omega), kscan]
    by_cases c : (rd_T44 l i).f0 ≥ (cs.length : Int)
    · exact Evt.pos c ((Evt.const _).cast (if_pos c).symm)
    · exact Evt.neg c ((ih (i + 1) (by omega) (by omega)).cast (if_neg c).symm)
theorem ref_judge_ev (cs : List S23) (hs : ∀ x ∈ cs, x.f0.size ≤ 140737488351232) (l : List S44) (w t : Int) : Evt (fun k => hinterlandref09_judge.f k cs l w t) (judgeOf cs l w t) := by
  unfold hinterlandref09_judge.f judgeOf
  refine Evt.bind (ref_Cargoes_ev cs hs) ?_
  by_cases c : cargoesOf cs = 0
  · refine Evt.pos c (Evt.bind (ref_Validate_ev l) ?_)
    by_cases e : loadOf l = 0
    · exact Evt.pos e ((ref_kscan cs l w t (load_ok e).1 l.length 0 (by omega) (by omega)).cast ((if_pos c).trans (if_pos e)).symm)
    · exact Evt.neg e ((Evt.const _).cast ((if_pos c).trans (if_neg e)).symm)
  · exact Evt.neg c ((Evt.const _).cast (if_neg c).symm)
theorem ref_far {w a b : Int} (w4 : 4 ≤ w) (w32 : w ≤ 32) (a0 : 0 ≤ a) (a1 : a ≤ 1000000) (b0 : 0 ≤ b) (b1 : b ≤ 1000000) : hinterlandref09_Far.f a b w = some (farOf w a b) := by
  unfold hinterlandref09_Far.f
  rw [if_neg (by omega), far_terms w4 w32 a0 a1 b0 b1]
end Go.Proofs.Ytmphplpfgjcpiaa.PCargo
/- CargoTransfers, for all cargoes, loads, maps and tiles: the pure statement. -/
namespace Go.Proofs.Ytmphplpfgjcpiaa.Pure
open Go.RowKit Go.Proofs.Ytmphplpfgjcpiaa.PCargo Go.Proofs.YtmphplpfgjcpiaaW.Opening Go.Proofs.YtmphplpfgjcpiaaW.PrintWords Go.Proofs.YtmphplpfgjcpiaaW.PrintLast Go.Proofs.YtmphplpfgjcpiaaW.PrintMore Go.Proofs.YtmphplpfgjcpiaaW.Evt
theorem up_same {cs : List S23} {w t : Int} {x : S44} (h : ¬ paidFor cs w t x > x.f5) : up cs w t x = x := by
  have e : mx x.f5 (paidFor cs w t x) = x.f5 := by unfold mx; split <;> omega
  unfold up
  rw [e]
theorem ref_moved {cs : List S23} {w t : Int} (hw : Map w t) : ∀ (rest done : List S44) (s : Int), (∀ x ∈ rest, Due cs x) → done.length + rest.length ≤ 200 → 0 ≤ s → s ≤ 1000000000000 → Evt (fun k => hinterlandref09_Transfer.l0 k cs w t s (done.length : Int) (done ++ rest)) (moved cs w t done rest s)
  | [], done, s, _, _, h0, h1 => by
    refine Evt.succ (h := _) (fun k => by rw [hinterlandref09_Transfer.l0]) ?_
    refine Evt.neg (by simp) ((Evt.const _).cast ?_)
    unfold moved
    rw [if_neg (by simp [tot]; omega)]
    simp [tot]
  | x :: r, done, s, hd, hl, h0, h1 => by
    refine Evt.succ (h := _) (fun k => by rw [hinterlandref09_Transfer.l0]) ?_
    have hx := hd x (by simp)
    have hs := hx.sound
    have hr := hx.rate
    have c0 := hs.c0
    have s0 := hs.s0
    have s1 := hs.s1
    have hll : ((done ++ x :: r).length : Int) = done.length + r.length + 1 := by simp; omega
    have hl2 : (done.length : Int) + r.length + 1 ≤ 200 := by simp at hl; omega
    have hfb := far_bd hw.w4 hw.w32 hs.t0 hs.t1 hw.t0 hw.t1
    have hp := paid_bd hw hx
    have hg := grow_bd hw hx
    have ht := tot_nn hw r (fun y hy => hd y (by simp [hy]))
    refine Evt.pos (by omega) (Evt.pos (by omega) ?_)
    rw [rd44_at]
    refine Evt.pos hs.k0 (Evt.pos hx.kind ?_)
    rw [ref_far hw.w4 hw.w32 hs.t0 hs.t1 hw.t0 hw.t1]
    simp only [Option.bind_some]
    have hmn : mn 1000000 (farOf w x.f2 t) = farOf w x.f2 t := by unfold mn; split <;> omega
    rw [hmn, ref_pay_of _ hr.1.1 hr.1.2 hr.2.1.1 hr.2.1.2 hr.2.2.1 hr.2.2.2 (by omega) hs.c1 hfb.2.2.2.2.1 hfb.2.2.2.2.2 hs.a0 hs.a1]
    simp only [Option.bind_some]
    rw [show payOf (rd_T23 cs x.f0).f1 (rd_T23 cs x.f0).f2 (rd_T23 cs x.f0).f3 x.f4 (farOf w x.f2 t) x.f3 = paidFor cs w t x from rfl, set44_at]
    rw [w64 (x := (done.length : Int) + 1) (by omega) (by omega)]
    have next : ∀ g, g = grow cs w t x → ¬ s + g > 1000000000000 → Evt (fun k => hinterlandref09_Transfer.l0 k cs w t (s + g) ((done.length : Int) + 1) (done ++ up cs w t x :: r)) (moved cs w t done (x :: r) s) := by
      rintro g rfl c
      have ih := ref_moved hw r (done ++ [up cs w t x]) (s + grow cs w t x) (fun y hy => hd y (by simp [hy])) (by simp at hl ⊢; omega) (by omega) (by omega)
      have e1 : done ++ [up cs w t x] ++ r = done ++ up cs w t x :: r := by simp
      have e2 : ((done ++ [up cs w t x]).length : Int) = (done.length : Int) + 1 := by simp
      rw [e1, e2] at ih
      refine ih.cast ?_
      unfold moved
      rw [tot, show s + grow cs w t x + tot cs w t r = s + (grow cs w t x + tot cs w t r) by omega]
      simp
    by_cases m : paidFor cs w t x > x.f5
    · refine Evt.pos m ?_
      have em : mx x.f5 (paidFor cs w t x) = paidFor cs w t x := by unfold mx; split <;> omega
      have eg : paidFor cs w t x - x.f5 = grow cs w t x := by unfold grow; rw [em]
      rw [eg, w64 (x := grow cs w t x) (by omega) (by omega), w64 (x := s + grow cs w t x) (by omega) (by omega)]
      by_cases c : s + grow cs w t x > 1000000000000
      · refine Evt.pos c ((Evt.const _).cast ?_)
        unfold moved
        rw [if_pos (by rw [tot]; omega)]
      · refine Evt.neg c ?_
        have h := next _ rfl c
        unfold up at h
        rw [em] at h
        exact h
    · refine Evt.neg m (Evt.neg (by omega) ?_)
      have em : mx x.f5 (paidFor cs w t x) = x.f5 := by unfold mx; split <;> omega
      have eg : (0 : Int) = grow cs w t x := by unfold grow; rw [em]; omega
      have h := next 0 eg (by omega)
      rw [up_same m, show s + 0 = s by omega] at h
      exact h
theorem ref_Transfer_ev (cs : List S23) (hs : ∀ x ∈ cs, x.f0.size ≤ 140737488351232) (l : List S44) (w t : Int) : Evt (fun k => hinterlandref09_Transfer.f k cs l w t) (transferOf cs l w t) := by
  unfold hinterlandref09_Transfer.f transferOf
  refine Evt.bind (ref_judge_ev cs hs l w t) ?_
  by_cases e : judgeOf cs l w t = 0
  · have hm := meets_of e
    have hlen := hm.len
    refine Evt.pos e ?_
    simp only [Option.bind_some]
    refine Evt.pos (by simp; omega) ?_
    have h := ref_moved (map_of hm) l [] 0 (due_of hm) (by simpa using hm.len) (by omega) (by omega)
    rw [if_pos e]
    exact h
  · refine Evt.neg e ((Evt.const _).cast (if_neg e).symm)
def sum5 : List S44 → Int
  | [] => 0
  | x :: r => x.f5 + sum5 r
def sum4 : List S44 → Int
  | [] => 0
  | x :: r => x.f4 + sum4 r
theorem shares_loop : ∀ (rest done : List S44) (a : Int), (∀ x ∈ rest, 0 ≤ x.f5 ∧ x.f5 ≤ 1000000000000) → done.length + rest.length ≤ 200 → 0 ≤ a → a ≤ 1000000000000 * done.length → Evt (fun k => hinterlandlaw09_shares.l0 k (done ++ rest) a (done.length : Int)) (a + sum5 rest) ∧ 0 ≤ a + sum5 rest ∧ a + sum5 rest ≤ 200000000000000
  | [], done, a, _, hl, h0, h1 => by
    simp at hl
    refine ⟨?_, by simp [sum5]; omega, by simp [sum5]; omega⟩
    refine Evt.succ (h := _) (fun k => by rw [hinterlandlaw09_shares.l0]) ?_
    exact Evt.neg (by simp) ((Evt.const _).cast (by simp [sum5]))
  | x :: r, done, a, hx, hl, h0, h1 => by
    have h2 := hx x (by simp)
    have hll : ((done ++ x :: r).length : Int) = done.length + r.length + 1 := by simp; omega
    have hl2 : (done.length : Int) + r.length + 1 ≤ 200 := by simp at hl; omega
    have ih := shares_loop r (done ++ [x]) (a + x.f5) (fun y hy => hx y (by simp [hy])) (by simp at hl ⊢; omega) (by omega) (by simp; omega)
    have e1 : done ++ [x] ++ r = done ++ x :: r := by simp
    have e2 : ((done ++ [x]).length : Int) = (done.length : Int) + 1 := by simp
    rw [e1, e2, show a + x.f5 + sum5 r = a + sum5 (x :: r) by rw [sum5]; omega] at ih
    refine ⟨?_, ih.2⟩
    refine Evt.succ (h := _) (fun k => by rw [hinterlandlaw09_shares.l0]) ?_
    refine Evt.pos (by omega) (Evt.pos (by omega) ?_)
    rw [rd44_at, w64 (x := a + x.f5) (by omega) (by omega), w64 (x := (done.length : Int) + 1) (by omega) (by omega)]
    exact ih.1
theorem units_loop : ∀ (rest done : List S44) (a : Int), (∀ x ∈ rest, 0 ≤ x.f4 ∧ x.f4 ≤ 1000000) → done.length + rest.length ≤ 200 → 0 ≤ a → a ≤ 1000000 * done.length → Evt (fun k => hinterlandlaw09_units.l0 k (done ++ rest) a (done.length : Int)) (a + sum4 rest)
  | [], done, a, _, hl, h0, h1 => by
    refine Evt.succ (h := _) (fun k => by rw [hinterlandlaw09_units.l0]) ?_
    exact Evt.neg (by simp) ((Evt.const _).cast (by simp [sum4]))
  | x :: r, done, a, hx, hl, h0, h1 => by
    have h2 := hx x (by simp)
    have hll : ((done ++ x :: r).length : Int) = done.length + r.length + 1 := by simp; omega
    have hl2 : (done.length : Int) + r.length + 1 ≤ 200 := by simp at hl; omega
    have ih := units_loop r (done ++ [x]) (a + x.f4) (fun y hy => hx y (by simp [hy])) (by simp at hl ⊢; omega) (by omega) (by simp; omega)
    have e1 : done ++ [x] ++ r = done ++ x :: r := by simp
    have e2 : ((done ++ [x]).length : Int) = (done.length : Int) + 1 := by simp
    rw [e1, e2, show a + x.f4 + sum4 r = a + sum4 (x :: r) by rw [sum4]; omega] at ih
    refine Evt.succ (h := _) (fun k => by rw [hinterlandlaw09_units.l0]) ?_
    refine Evt.pos (by omega) (Evt.pos (by omega) ?_)
    rw [rd44_at, w64 (x := a + x.f4) (by omega) (by omega), w64 (x := (done.length : Int) + 1) (by omega) (by omega)]
    exact ih
theorem sum5_up (cs : List S23) (w t : Int) : ∀ (l : List S44), sum5 (l.map (up cs w t)) = sum5 l + tot cs w t l
  | [] => rfl
  | x :: r => by
    have e : (up cs w t x).f5 = x.f5 + grow cs w t x := by show mx x.f5 (paidFor cs w t x) = _; unfold grow; omega
    rw [List.map_cons, sum5, sum5, tot, sum5_up cs w t r, e]; omega
theorem sum4_up (cs : List S23) (w t : Int) : ∀ (l : List S44), sum4 (l.map (up cs w t)) = sum4 l
  | [] => rfl
  | x :: r => by rw [List.map_cons, sum4, sum4, sum4_up cs w t r]; rfl
theorem CargoTransfers : hinterlandlaw09_CargoTransfers.Pure := by
  intro cs l w t hc _ _ _
  apply Evt.some_
  have hs : ∀ x ∈ cs, x.f0.size ≤ 140737488351232 := fun x hx => (hc.2.2 x hx).1
  have fin : Evt (fun k => (hinterlandlaw09_known.f k).bind fun t => some t) true := Evt.bind known_ev (Evt.const _)
  have stop : Evt (fun k => hinterlandlaw09_CargoTransfers.j0 k cs l w t true) true := by
    refine Evt.succ (h := _) (fun k => by rw [hinterlandlaw09_CargoTransfers.j0]) ?_
    exact Evt.pos rfl fin
  unfold hinterlandlaw09_CargoTransfers.f
  refine Evt.ite (fun _ => stop) (fun _ => ?_)
  by_cases c : (l.length : Int) > 1000
  · rw [decide_eq_true c]; exact stop
  rw [decide_eq_false c]
  refine Evt.succ (h := _) (fun k => by rw [hinterlandlaw09_CargoTransfers.j0]) ?_
  refine Evt.neg (by decide) ?_
  refine Evt.bind (ref_Transfer_ev cs hs l w t) (Evt.bind (cargo_Transfer_ev cs hs l w t) (Evt.pos rfl (Evt.pos rfl ?_)))
  by_cases e : judgeOf cs l w t = 0
  case neg =>
    rw [show transferOf cs l w t = ([], 0, judgeOf cs l w t) from if_neg e]
    exact Evt.bind (same_ev [] (by simp)) (Evt.pos rfl (Evt.neg e fin))
  by_cases b : 0 + tot cs w t l > 1000000000000
  · rw [show transferOf cs l w t = ([], 0, 10) by unfold transferOf moved; rw [if_pos e, if_pos b]]
    exact Evt.bind (same_ev [] (by simp)) (Evt.pos rfl (Evt.neg (by decide) fin))
  have hr : transferOf cs l w t = (l.map (up cs w t), tot cs w t l, 0) := by
    unfold transferOf moved; rw [if_pos e, if_neg b]; simp
  have hm := meets_of e
  have hw := map_of hm
  have hd := due_of hm
  have hlen := hm.len
  rw [hr]
  refine Evt.bind (same_ev _ (by simpa using hlen)) (Evt.pos rfl (Evt.pos rfl ?_))
  have b1 : ∀ x ∈ l, 0 ≤ x.f5 ∧ x.f5 ≤ 1000000000000 := fun x hx => ⟨(hd x hx).sound.s0, (hd x hx).sound.s1⟩
  have b2 : ∀ x ∈ l.map (up cs w t), 0 ≤ x.f5 ∧ x.f5 ≤ 1000000000000 := by
    intro y hy
    obtain ⟨x, hx, rfl⟩ := List.mem_map.1 hy
    have hp := paid_bd hw (hd x hx)
    have hq := b1 x hx
    show 0 ≤ mx x.f5 (paidFor cs w t x) ∧ mx x.f5 (paidFor cs w t x) ≤ 1000000000000
    unfold mx; split <;> omega
  have u1 : ∀ x ∈ l, 0 ≤ x.f4 ∧ x.f4 ≤ 1000000 := fun x hx => ⟨by have := (hd x hx).sound.c0; omega, (hd x hx).sound.c1⟩
  have u2 : ∀ x ∈ l.map (up cs w t), 0 ≤ x.f4 ∧ x.f4 ≤ 1000000 := by
    intro y hy
    obtain ⟨x, hx, rfl⟩ := List.mem_map.1 hy
    exact u1 x hx
  have s1 := shares_loop (l.map (up cs w t)) [] 0 b2 (by simpa using hlen) (by omega) (by simp)
  have s2 := shares_loop l [] 0 b1 (by simpa using hlen) (by omega) (by simp)
  have n1 := units_loop (l.map (up cs w t)) [] 0 u2 (by simpa using hlen) (by omega) (by simp)
  have n2 := units_loop l [] 0 u1 (by simpa using hlen) (by omega) (by simp)
  rw [sum5_up] at s1
  rw [sum4_up] at n1
  have ht := tot_nn hw l hd
  refine Evt.bind s1.1 (Evt.bind s2.1 (Evt.pos ?_ (Evt.bind n1 (Evt.bind n2 (Evt.pos rfl fin)))))
  have g1 := s1.2
  have g2 := s2.2
  rw [w64 (x := 0 + sum5 l + tot cs w t l) (by omega) (by omega)]
  omega
end Go.Proofs.Ytmphplpfgjcpiaa.Pure
/- The law CargoTransfers: it answers true for every input, and its arguments read afterwards as they did. The row, out of the pure statement and the walk (written by a program of this session's: mylaw.py). -/
namespace Go.Proofs.Ytmphplpfgjcpiaa.cargoTransfers
open Go.ChangeShapes Go.WideShapes Go.ChangeAt Go.RowKit Go.Proofs.YtmphplpfgjcpiaaW.Opening Go.Proofs.Ytmphplpfgjcpiaa.PCargo
open Go.Proofs.YtmphplpfgjcpiaaW.PrintWords (Kd)
open Go.ChangeMaps (open_string shut_string)
set_option linter.unusedVariables false
theorem own : ownKnob Try.prog.godebug = none := by kernel_rfl
theorem laidOut : laidOutB Try.prog = true := by kernel_rfl
set_option maxRecDepth 100000 in
set_option maxHeartbeats 1000000 in
theorem lifted (os : Os) (started : os.Started) (H : Type) (enc : TypeId × Value → H) :
    ReturnsInHanded {} Try.checked os 8 .any (Rows.cargoTransfersSpec.pre6 enc Try.prog Try.f8 Rows.cargoTransfersRow.domain false) (Rows.cargoTransfersSpec.post enc Try.prog Try.f8 false true false false) := by
  refine returnsInHanded_of_change_sized (C := Try.checked) own started (by kernel_rfl) Try.func8
    (ChangeSpec.witness6 (enc := enc) (C := Try.checked) false ⟨#[], #[.slice none 0 0, .slice none 0 0, .int .i64 0, .int .i64 0], []⟩ 8 (by kernel_rfl) (by kernel_rfl) (by kernel_rfl) (by kernel_rfl)) ?_
  intro W base args ds gs before hval0 hW hcnd hsz0 _
  have hsz : (DataW.weightsEach Try.prog (Try.f8.params.toList ++ Rows.cargoTransfersSpec.plain.varTypes Try.prog) (ds ++ gs)).all (· ≤ reachBytes) = true := hsz0
  have hval : ∀ (j : Nat) t v, Try.f8.params[j]? = some t → args[j]? = some v → Value.okWide Try.prog W .any base t v := hval0
  have hW' := hW
  obtain ⟨p, q, hA0, hV, rfl, hfz, hnd⟩ := hW
  have hA : DataW.TrodAll enc Try.prog W 0 (fun _ => true) true Try.f8.params.toList args.toList ds p := hA0
  rw [Try.params8] at hA hval hsz
  obtain ⟨v0, vs0, d0, ds0, p0, q0, hargs, rfl, rfl, h0, r0⟩ := trodAll_cons hA
  obtain ⟨v1, vs1, d1, ds1, p1, q1, rfl, rfl, rfl, h1, r1⟩ := trodAll_cons r0
  obtain ⟨v2, vs2, d2, ds2, p2, q2, rfl, rfl, rfl, h2, r2⟩ := trodAll_cons r1
  obtain ⟨v3, vs3, d3, ds3, p3, q3, rfl, rfl, rfl, h3, r3⟩ := trodAll_cons r2
  obtain ⟨rfl, rfl, rfl⟩ := trodAll_nil r3
  obtain rfl : args = #[v0, v1, v2, v3] := by cases args; simp_all
  obtain ⟨rfl, rfl⟩ := trodVars_none hV
  have k0 := h0
  have lt0 : ∀ x ∈ p0, x.block < W.heap.size := by obtain ⟨m, hm⟩ := k0; exact DataW.trod_lt m _ _ _ hm
  obtain ⟨l0, A0, c0, rfl, hc0, hr0, g0⟩ := open_row_any (j := 0) (t := 31) Try.underlying31 (Opens.slice (B := 40) Try.underlying31 (by kernel_rfl) (by kernel_rfl) opens23) (hval 0 31 v0 rfl rfl) h0 hsz rfl rfl
  have k1 := h1
  have lt1 : ∀ x ∈ p1, x.block < W.heap.size := by obtain ⟨m, hm⟩ := k1; exact DataW.trod_lt m _ _ _ hm
  obtain ⟨l1, A1, c1, rfl, hc1, hr1, g1⟩ := open_row_any (j := 1) (t := 30) Try.underlying30 (Opens.slice (B := 48) Try.underlying30 (by kernel_rfl) (by kernel_rfl) opens44) (hval 1 30 v1 rfl rfl) h1 hsz rfl rfl
  obtain ⟨a2, rfl, rfl, rfl, w2⟩ := open_int Try.underlying3 (hval 2 3 v2 rfl rfl) h2
  obtain ⟨a3, rfl, rfl, rfl, w3⟩ := open_int Try.underlying3 (hval 3 3 v3 rfl rfl) h3
  clear hA0 hval0 hsz0 hsz
  refine (hinterlandlaw09_CargoTransfers.walk Pure.CargoTransfers A0 c0 l0 A1 c1 l1 a2 a3 W hr0 hc0 hr1 hc1 g0 g1 w2 w3).mono fun e W' ⟨he, bel⟩ => ?_
  subst he
  exact ⟨_, rfl, _, _, _, [], _, [], hW', trodAll_mk1 (shut_bool Try.underlying4 _), (trodAll_cons_mk (Below.trod laidOut (by kernel_rfl) (of_decide_eq_true (by kernel_rfl)) k0 bel lt0) (trodAll_cons_mk (Below.trod laidOut (by kernel_rfl) (of_decide_eq_true (by kernel_rfl)) k1 bel lt1) (trodAll_cons_mk (shut_int Try.underlying3 w2) (trodAll_cons_mk (shut_int Try.underlying3 w3) trodAll_mk0)))), rfl, bel.frame _, fun h => by cases h⟩
theorem over : Rows.cargoTransfersRow.holds Try.pinned (OpenSpec.ofChange Rows.cargoTransfersSpec) :=
  OpenClaim.holds_of_wide 8 Try.f8 rfl rfl rfl rfl rfl rfl rfl ⟨rfl, rfl, rfl, rfl, rfl⟩ rfl rfl rfl rfl rfl (by kernel_rfl) Try.func8 (by kernel_rfl)
    (of_decide_eq_true (by kernel_rfl)) (by unfold Func.isWrapper; first | (rw [if_pos (by decide +kernel)]; kernel_rfl) | (rw [if_neg (by decide +kernel)]; exact ⟨rfl, rfl⟩))
    (fun os started H enc _ => lifted os started H enc)
theorem proved : Rows.CargoTransfersSaid := over
#print axioms proved
end Go.Proofs.Ytmphplpfgjcpiaa.cargoTransfers
namespace Go.Proofs.Ytmphplpfgjcpiaa
/-- The row, under a short name, for the claim. -/
theorem cargoTransfers_holds : Rows.CargoTransfersSaid := cargoTransfers.proved
end Go.Proofs.Ytmphplpfgjcpiaa
