/- What a function with a number of rounds tells from some number of rounds on. -/
import Derived.Test.YtbndaabjlfdfcaaWWords
namespace Go.Proofs.YtbndaabjlfdfcaaW.Evt
/-- From some number of rounds on, g tells r. -/
def Evt {α : Type} (g : Nat → Option α) (r : α) : Prop := ∃ n, ∀ k, n ≤ k → g k = some r
section
variable {α β : Type}
theorem Evt.const (r : α) : Evt (fun _ => some r) r := ⟨0, fun _ _ => rfl⟩
theorem Evt.of {g : Nat → Option α} {r : α} (h : ∀ k, g k = some r) : Evt g r := ⟨0, fun k _ => h k⟩
theorem Evt.bind {g : Nat → Option α} {h : Nat → α → Option β} {a : α} {r : β} (hg : Evt g a) (hh : Evt (fun k => h k a) r) : Evt (fun k => (g k).bind (h k)) r := by
  obtain ⟨n, hn⟩ := hg
  obtain ⟨m, hm⟩ := hh
  exact ⟨n + m, fun k hk => by show (g k).bind (h k) = some r; rw [hn k (by omega)]; exact hm k (by omega)⟩
theorem Evt.succ {g h : Nat → Option α} {r : α} (hs : ∀ k, g (k + 1) = h k) (hh : Evt h r) : Evt g r := by
  obtain ⟨n, hn⟩ := hh
  refine ⟨n + 1, fun k hk => ?_⟩
  obtain ⟨m, rfl⟩ : ∃ m, k = m + 1 := ⟨k - 1, by omega⟩
  rw [hs]; exact hn m (by omega)
theorem Evt.congr {g h : Nat → Option α} {r : α} (hs : ∀ k, g k = h k) (hh : Evt h r) : Evt g r := by
  obtain ⟨n, hn⟩ := hh
  exact ⟨n, fun k hk => by rw [hs]; exact hn k hk⟩
theorem Evt.some_ {g : Nat → Option α} {r : α} (h : Evt g r) : ∃ k, g k = some r := by
  obtain ⟨n, hn⟩ := h
  exact ⟨n, hn n (Nat.le_refl _)⟩
theorem Evt.ite {c : Prop} [Decidable c] {g h : Nat → Option α} {r : α} (hp : c → Evt g r) (hn : ¬ c → Evt h r) : Evt (fun k => if c then g k else h k) r := by
  by_cases hc : c
  · simp only [if_pos hc]; exact hp hc
  · simp only [if_neg hc]; exact hn hc
theorem Evt.pos {c : Prop} [Decidable c] {g h : Nat → Option α} {r : α} (hc : c) (hp : Evt g r) : Evt (fun k => if c then g k else h k) r := by simp only [if_pos hc]; exact hp
theorem Evt.neg {c : Prop} [Decidable c] {g h : Nat → Option α} {r : α} (hc : ¬ c) (hp : Evt h r) : Evt (fun k => if c then g k else h k) r := by simp only [if_neg hc]; exact hp
theorem Evt.cast {g : Nat → Option α} {r s : α} (h : Evt g r) (e : r = s) : Evt g s := e ▸ h
theorem Evt.unique {g : Nat → Option α} {r s : α} (h : Evt g r) (h' : Evt g s) : r = s := by
  obtain ⟨n, hn⟩ := h
  obtain ⟨m, hm⟩ := h'
  exact Option.some.inj ((hn (n + m) (by omega)).symm.trans (hm (n + m) (by omega)))
end
end Go.Proofs.YtbndaabjlfdfcaaW.Evt
