/- An abstract run of a function's code, without memory: that the model's run answers what it answers (two). -/
import Derived.Test.YtaafjaibaaiigaaGreatDoorEngOne
import Derived.WideMake
import Derived.WideKeyRuns
import Derived.MapKept
import Derived.Orders
import Derived.Scope
set_option linter.unusedVariables false
set_option linter.unusedSimpArgs false
/- Copy, slicing, len, min and max against the model. Written for this seat's proofs. -/
set_option linter.unusedVariables false
set_option linter.unusedSimpArgs false
namespace Go.Proofs.YtaafjaibaaiigaaGreatDoor.Eng
open Go Go.RowKit

section
variable {P : Program} {E : Env} {B : Zn} {S0 : Nat → Prop} {μ : Nat → Option Wh} {H H' : Nat → Option Ob} {w w' : World} {St : Nat → Prop}

theorem copied_get {α : Type} (xs ys : List α) (i : Nat) : (ys.take xs.length ++ xs.drop ys.length)[i]? = if i < min ys.length xs.length then ys[i]? else xs[i]? := by
  by_cases h : i < min ys.length xs.length
  · rw [if_pos h, List.getElem?_append_left (by rw [List.length_take]; omega), List.getElem?_take, if_pos (by omega)]
  · rw [if_neg h, List.getElem?_append_right (by rw [List.length_take]; omega), List.length_take, List.getElem?_drop]
    by_cases h2 : ys.length ≤ xs.length
    · rw [Nat.min_eq_right h2]
      congr 1
      omega
    · rw [List.getElem?_eq_none (by omega), List.getElem?_eq_none (by omega)]

theorem run_copy_at {t u e : TypeId} {ty : TypeId} {sz : Nat} (ht : P.underlying t = some (.slice e)) (hsz : (sizeOf e).run P w = .ok sz w) {b o n c k d : Nat} {a : Option Addr} {cells : List Value}
    (hf : (Builtin.firstCells sz (Nat.min k n) (.slice a k d)).run P w = .ok cells.toArray w) (hst : (storeCells ⟨b, o, none⟩ cells).run P w = .ok () w') :
    (Builtin.copy_ #[t, u] ty #[.slice (some ⟨b, o, none⟩) n c, .slice a k d]).run P w = .ok (.int .i64 ((Nat.min k n : Nat) : Int)) w' := by
  simp [Builtin.copy_, run_underlying ht, hsz, Builtin.lenOf, hf, hst, goInt]
theorem run_copy_nil {t u e : TypeId} {ty : TypeId} {sz : Nat} (ht : P.underlying t = some (.slice e)) (hsz : (sizeOf e).run P w = .ok sz w) {n c k d : Nat} {a : Option Addr} {cells : List Value}
    (hf : (Builtin.firstCells sz (Nat.min k n) (.slice a k d)).run P w = .ok cells.toArray w) :
    (Builtin.copy_ #[t, u] ty #[.slice none n c, .slice a k d]).run P w = .ok (.int .i64 ((Nat.min k n : Nat) : Int)) w := by
  simp [Builtin.copy_, run_underlying ht, hsz, Builtin.lenOf, hf, goInt]

theorem copy_ok (hT : TOk P E) (hs : HS B S0 μ H w) {base t u ty : Nat} {d x : AV} {vd vx : Value} {r : Res} (hvd : RV (Stb B S0 μ H w) w μ d vd) (hvx : RV (Stb B S0 μ H w) w μ x vx)
    (hr : (copyR E t d x).run H = some r) : ∃ v w', (Builtin.copy_ #[t, u] ty #[vd, vx]).run P w = .ok v w' ∧ r.ps = [] ∧ Done B S0 μ H w base (upds H r.ups) r.val v μ w' := by
  unfold copyR at hr
  split at hr
  · rename_i hk
    split at hr
    · rename_i h
      change (match H h with
        | some (.arr te xs) => (match andB (eqSize (E.ti (E.ti t).elem) te) (otherThan h x) with
          | true => (itemsR te x).bind fun ys =>
            Rd.ok (⟨[], .int .i64 ((min ys.length xs.length : Nat) : Int), [(h, some (.arr te (ys.take xs.length ++ xs.drop ys.length)))]⟩ : Res)
          | false => Rd.bad)
        | _ => Rd.bad).run H = some r at hr
      cases ho : H h with
      | none => rw [ho] at hr; cases hr
      | some ob =>
        rw [ho] at hr
        cases ob with
        | box _ => cases hr
        | mp _ _ _ => cases hr
        | tab _ _ _ _ => cases hr
        | tbx _ _ => cases hr
        | trow _ _ => cases hr
        | arr te xs =>
          simp only at hr
          split at hr
          · rename_i hchk
            obtain ⟨hsz, _⟩ := andB_true hchk
            obtain ⟨hke, hsize⟩ := eqSize_of hsz
            obtain ⟨ys, h2, hr⟩ := bind_ok hr
            cases hr
            obtain ⟨m, hm, rfl⟩ := hvd
            obtain ⟨m', q1, harr⟩ := hs.obj h _ ho
            rw [hm] at q1
            cases q1
            have hut := (hT t (by rw [hk]; decide)).k1 hk
            have hsr := run_sizeOf_ti (P := P) (w := w) hT hke
            rw [hsize] at hsr
            obtain ⟨a, c, rfl, hac, news, n1, n2, n3, n4⟩ := (items_ok hs hvx h2).it
            have hmn := harr.n
            have hcells : (Builtin.firstCells te.size (Nat.min ys.length m.n) (.slice a ys.length c)).run P w = .ok (news.take (Nat.min ys.length m.n * te.size)).toArray w := by
              refine run_firstCells_of ?_ (fun p u hp => ?_)
              · rw [List.length_take, n1]
                exact Nat.min_eq_left (Nat.mul_le_mul_right _ (Nat.min_le_left _ _))
              · rw [List.getElem?_take] at hp
                split at hp
                · exact n2 p u hp
                · cases hp
            have hnl : (news.take (Nat.min ys.length m.n * te.size)).length = Nat.min ys.length m.n * te.size := by
              rw [List.length_take, n1]
              exact Nat.min_eq_left (Nat.mul_le_mul_right _ (Nat.min_le_left _ _))
            have hmin : Nat.min ys.length m.n = min ys.length xs.length := by rw [hmn]
            cases hma : m.a with
            | none =>
              have hc0 := harr.nil hma
              have := harr.c
              have hx0 : xs = [] := List.length_eq_zero_iff.1 (by omega)
              subst hx0
              refine ⟨_, w, run_copy_nil hut hsr hcells, rfl, ?_⟩
              rw [hmin]
              have hH : upd H h (some (Ob.arr te (ys.take ([] : List te.D).length ++ ([] : List te.D).drop ys.length))) = H := by
                funext q
                by_cases e : q = h
                · subst e
                  rw [upd_same, ho]
                  simp
                · exact upd_other _ e
              show Done B S0 μ H w base (upd H h (some (Ob.arr te (ys.take ([] : List te.D).length ++ ([] : List te.D).drop ys.length)))) _ _ μ w
              rw [hH]
              exact Done.quiet hs rfl
            | some ad =>
              obtain ⟨r1, r2, cs, e, r3, r4, r5⟩ := harr.row ad hma
              obtain ⟨b, o, sp⟩ := ad
              simp only at r1
              subst r1
              simp only at r2 r3 r4 r5
              have hmc := harr.c
              have hroom : o + Nat.min ys.length m.n * te.size ≤ cs.size := by
                have : Nat.min ys.length m.n * te.size ≤ m.c * te.size := Nat.mul_le_mul_right _ (Nat.le_trans (Nat.min_le_right _ _) hmc)
                omega
              have hst := run_storeCells_at (P := P) b o e (news.take (Nat.min ys.length m.n * te.size)) 0 cs w r3 (by rw [hnl]; simpa using hroom) (fun u hu => n3 u (List.mem_of_mem_take hu))
              simp only [Nat.add_zero] at hst
              have hbk : blk μ h = some b := by simp [blk, hm, hma]
              have hfit2 : o + (news.take (Nat.min ys.length m.n * te.size)).length ≤ cs.toList.length := by rw [hnl]; simpa using hroom
              obtain ⟨hs', k⟩ := hs.write (w' := w.setRow b (spl cs.toList o (news.take (Nat.min ys.length m.n * te.size))).toArray) (h := h) (by rw [ho]; simp) hbk (.arr te (ys.take xs.length ++ xs.drop ys.length)) (by simp) (fun q hq => setRow_other w b q _ hq) (fun k => by
                refine ⟨m, hm, harr.sz, by rw [hmn]; simp only [List.length_append, List.length_take, List.length_drop]; omega, hmc, harr.nil, fun ad had => ?_⟩
                rw [hma] at had
                cases had
                refine ⟨rfl, r2, _, e, setRow_heap w b _ _ e (0, 0) r3, by rw [List.size_toArray, spl_len hfit2]; simpa using r4, fun i y hy => ?_⟩
                simp only [List.getElem?_toArray]
                rw [copied_get] at hy
                split at hy
                · rename_i hi
                  obtain ⟨us, g1, g2, g3⟩ := n4 i y hy
                  refine ⟨us, g1, te.rep_mono k _ _ g2, fun j v hj => ?_⟩
                  have hjl : j < te.size := by rw [← g1]; exact (List.getElem?_eq_some_iff.1 hj).1
                  have : (i + 1) * te.size ≤ Nat.min ys.length m.n * te.size := Nat.mul_le_mul_right _ (by rw [hmin]; exact hi)
                  rw [Nat.add_mul, Nat.one_mul] at this
                  rw [spl_get hfit2, hnl, if_neg (by omega), if_pos (by omega), List.getElem?_take, if_pos (by omega)]
                  rw [← g3 j v hj]
                  congr 1
                  omega
                · rename_i hi
                  obtain ⟨us, g1, g2, g3⟩ := r5 i y hy
                  refine ⟨us, g1, te.rep_mono k _ _ g2, fun j v hj => ?_⟩
                  have : Nat.min ys.length m.n * te.size ≤ i * te.size := Nat.mul_le_mul_right _ (by rw [hmin]; omega)
                  rw [spl_get hfit2, hnl, if_neg (by omega), if_neg (by omega)]
                  have := g3 j v hj
                  simpa using this)
              refine ⟨_, _, run_copy_at hut hsr hcells hst, rfl, fun _ _ h => h, fun _ _ => rfl, hs', k, ?_, Bel.setRow (Bel.refl _ _) r2 _⟩
              rw [hmin]
              exact rfl
          · cases hr
    · cases hr
  · cases hr

theorem run_sliceB {y : Nat} {k : IntKind} {i : Int} {code : BoundsCode} (h0 : 0 ≤ i) (h1 : i ≤ y) : (Instr.sliceBound (.int k i) y code).run P w = .ok i.toNat w := by
  simp [Instr.sliceBound, asIntOf, h0, h1]

theorem slice_sl {St : Nat → Prop} {t : Ty} {xs : List t.D} {a : Option Addr} {c l h : Nat} (hl : l ≤ h) (hh : h ≤ xs.length) (hcc : CapOk a xs.length c) (hr : RowK St w (t.rep St w) t.size a xs) :
    RV St w μ (.sl t ((xs.take h).drop l)) (.slice (if c = l then a else a.map (·.add (l * t.size))) (h - l) (c - l)) := by
  have hlen : ((xs.take h).drop l).length = h - l := by rw [List.length_drop, List.length_take]; omega
  have hc := hcc.1
  refine ⟨_, c - l, by rw [hlen], ⟨by rw [hlen]; omega, fun e => ?_⟩, fun i x hx => ?_⟩
  · by_cases q : c = l
    · omega
    · rw [if_neg q] at e
      cases a with
      | none => have := hcc.2 rfl; omega
      | some _ => cases e
  have hi : i < h - l := by rw [← hlen]; exact (List.getElem?_eq_some_iff.1 hx).1
  rw [List.getElem?_drop, List.getElem?_take, if_pos (by omega)] at hx
  obtain ⟨b, o, rfl, hb, us, g1, g2, g3⟩ := hr _ _ hx
  rw [if_neg (by omega)]
  refine ⟨b, o + l * t.size, by simp [add_plain], hb, us, g1, g2, fun j u hj => ?_⟩
  have := g3 j u hj
  rw [Nat.add_mul] at this
  rw [← this]
  congr 2
  omega

theorem run_slice_sl {t e : TypeId} {sz : Nat} (ht : P.underlying t = some (.slice e)) (hsz : (sizeOf e).run P w = .ok sz w) {a : Option Addr} {n c l h m : Nat} {lo hi : Option Value}
    (hb : (Instr.sliceBounds true n c lo hi none).run P w = .ok (l, h, m) w) : (Instr.sliceAt t (.slice a n c) lo hi none).run P w = .ok (.slice (if m = l then a else a.map (·.add (l * sz))) (h - l) (m - l)) w := by
  simp [Instr.sliceAt, Instr.slice, run_underlying ht, hb, hsz]
theorem run_slice_str {t : TypeId} (ht : P.underlying t = some .string) {s : ByteArray} {l h m : Nat} {lo hi : Option Value}
    (hb : (Instr.sliceBounds false s.size s.size lo hi none).run P w = .ok (l, h, m) w) : (Instr.sliceAt t (.string s) lo hi none).run P w = .ok (.string (s.extract l h)) w := by
  simp [Instr.sliceAt, Instr.slice, run_underlying ht, hb]
theorem run_bounds {sl : Bool} {n c : Nat} {lo hi : Option Value} {l h : Nat}
    (hh : (match hi with | some v => (Instr.sliceBound v c (if sl then .sliceAcap else .sliceAlen)).run P w | none => .ok n w) = .ok h w) (hl : (match lo with | some v => (Instr.sliceBound v h .sliceB).run P w | none => .ok 0 w) = .ok l w) :
    (Instr.sliceBounds sl n c lo hi none).run P w = .ok (l, h, c) w := by
  cases hi <;> cases lo <;> simp at hh hl <;> simp [Instr.sliceBounds, hh, hl]

theorem len_ok (hT : TOk P E) (hs : HS B S0 μ H w) {t ty : Nat} {ts : Array TypeId} (hts : ts[0]? = some t) {x : AV} {vx : Value} {r : Res} (hvx : RV (Stb B S0 μ H w) w μ x vx) (hr : (lenR E t x).run H = some r) :
    Quiet P w (Stb B S0 μ H w) μ (Builtin.len_ ts ty #[vx]) r := by
  have main : ∀ {a : Option Addr} {n c : Nat}, (E.ti t).kind = 1 → (Builtin.len_ ts ty #[.slice a n c]).run P w = .ok (.int .i64 (n : Int)) w := by
    intro a n c hk
    have hu := (hT t (by rw [hk]; decide)).k1 hk
    simp [Builtin.len_, hts, run_underlying hu, goInt]
  unfold lenR at hr
  split at hr
  · split at hr
    · rename_i hk
      cases hr
      obtain ⟨a, c, rfl, _⟩ := hvx
      exact ⟨_, main hk, rfl, rfl⟩
    · cases hr
  · split at hr
    · rename_i hk
      cases hr
      cases hvx
      exact ⟨_, main hk, rfl, rfl⟩
    · cases hr
  · rename_i h
    change (match H h with
      | some (.arr u xs) => (match (E.ti t).kind with | 1 => Rd.ok (⟨[], .int .i64 (xs.length : Int), []⟩ : Res) | _ => Rd.bad)
      | _ => Rd.bad).run H = some r at hr
    cases ho : H h with
    | none => rw [ho] at hr; cases hr
    | some ob =>
      rw [ho] at hr
      cases ob with
      | box _ => cases hr
      | mp _ _ _ => cases hr
      | tab _ _ _ _ => cases hr
      | tbx _ _ => cases hr
      | trow _ _ => cases hr
      | arr te xs =>
        simp only at hr
        split at hr
        · rename_i hk
          cases hr
          obtain ⟨m, hm, rfl⟩ := hvx
          obtain ⟨m', q1, harr⟩ := hs.obj h _ ho
          rw [hm] at q1
          cases q1
          refine ⟨_, main hk, rfl, ?_⟩
          rw [harr.n]
          rfl
        · cases hr
  · split at hr
    · rename_i hk
      cases hr
      cases hvx
      have hu := (hT t (by rw [hk]; decide)).k4 hk
      exact ⟨_, by simp [Builtin.len_, hts, run_underlying hu, goInt], rfl, rfl⟩
    · cases hr
  · cases hr
end
end Go.Proofs.YtaafjaibaaiigaaGreatDoor.Eng
/- What a function's contract says, and what a call of it does to its caller's state. Written for this seat's proofs. -/
set_option linter.unusedVariables false
set_option linter.unusedSimpArgs false
namespace Go.Proofs.YtaafjaibaaiigaaGreatDoor.Eng
open Go Go.RowKit

/-- The function answers so: it turns nothing that was there; each slice that it tells is new. -/
def Fn1.SoundX (P : Program) (f : FuncId) (ex : List Value) (k : Fn1) : Prop :=
  ∀ (w : World) (S0 : Nat → Prop) (vals : List Value) (a : k.ins.D), (∀ b, S0 b → b < w.heap.size) → RVs S0 w (fun _ => none) (allRes k.ins a) vals → (∀ p ∈ k.pre a, p) →
    ∀ base, Calls P f (vals ++ ex).toArray w fun e w' => ∃ v, e = .returned v ∧ Bel (.of w.heap.size) w w' ∧
      ∃ μ', (∀ q, (q < base ∨ (adopt (allRes k.outs (k.res a)) base).2.2 ≤ q) → μ' q = none) ∧ HS (.of w.heap.size) S0 μ' (upds (fun _ => none) (adopt (allRes k.outs (k.res a)) base).2.1) w' ∧
        RV (Stb (.of w.heap.size) S0 μ' (upds (fun _ => none) (adopt (allRes k.outs (k.res a)) base).2.1) w') w' μ' (tupOf (adopt (allRes k.outs (k.res a)) base).1) v

section
variable {P : Program} {E : Env} {B : Zn} {S0 : Nat → Prop} {μ : Nat → Option Wh} {H H' : Nat → Option Ob} {w w' : World} {St : Nat → Prop}

theorem Ty.rep_flat {St St' : Nat → Prop} {w w' : World} : ∀ {t : Ty} {x : t.D} {us : List Value}, t.flat = true → t.rep St w x us → t.rep St' w' x us
  | .int _, _, _, _, r => r
  | .bool, _, _, _, r => r
  | .str, _, _, _, r => r
  | .sl _, _, _, h, _ => by cases h
  | .one a, x, us, h, r => Ty.rep_flat (t := a) h r
  | .fld a r, x, us, h, q => by
    obtain ⟨h1, h2⟩ := andB_true (show andB a.flat r.flat = true from h)
    obtain ⟨u1, u2, e, g1, g2⟩ := q
    exact ⟨u1, u2, e, Ty.rep_flat h1 g1, Ty.rep_flat h2 g2⟩

/-- Own slices among cells, seen by what they hold. -/
theorem arr_suf {St : Nat → Prop} {m : Wh} {t : Ty} {xs : List t.D} (harr : ArrR B (Stb B S0 μ H w) w m t xs) (kk : Keeps (Stb B S0 μ H w) St w w) (ho2 : ∀ b, B.z b → b < w.heap.size → St b) {l : Nat} (hl : l ≤ m.n) :
    RV St w μ (.sl t (xs.drop l)) (.slice (if m.c = l then m.a else m.a.map (·.add (l * m.sz))) (m.n - l) (m.c - l)) := by
  have hn := harr.n
  have hc := harr.c
  refine ⟨_, m.c - l, by rw [List.length_drop, hn], ⟨by rw [List.length_drop]; omega, fun e => ?_⟩, fun i x hx => ?_⟩
  · split at e
    · omega
    · have : m.a = none := by
        cases hma : m.a with
        | none => rfl
        | some a => rw [hma] at e; cases e
      have := harr.nil this
      omega
  · rw [List.getElem?_drop] at hx
    have hil : l + i < xs.length := (List.getElem?_eq_some_iff.1 hx).1
    rw [if_neg (by omega)]
    cases hma : m.a with
    | none =>
      have := harr.nil hma
      omega
    | some a =>
      obtain ⟨g1, g2, cs', e, g3, g4, g5⟩ := harr.row a hma
      obtain ⟨us', f1, f2, f3⟩ := g5 _ x hx
      obtain ⟨b, o, sp⟩ := a
      simp only at g1
      subst g1
      refine ⟨b, o + l * m.sz, by simp [add_plain], ho2 b g2 (Array.getElem?_eq_some_iff.1 g3).1, us', f1, t.rep_mono kk x us' f2, fun j u hu => ?_⟩
      rw [cell_at g3, ← f3 j u hu, harr.sz, Nat.add_mul]
      congr 1
      show o + l * t.size + i * t.size + j = o + (l * t.size + i * t.size) + j
      omega
theorem arr_pre {St : Nat → Prop} {m : Wh} {t : Ty} {xs : List t.D} (harr : ArrR B (Stb B S0 μ H w) w m t xs) (kk : Keeps (Stb B S0 μ H w) St w w) (ho2 : ∀ b, B.z b → b < w.heap.size → St b) {n : Nat} (hl : n ≤ m.n) :
    RV St w μ (.sl t (xs.take n)) (.slice m.a n m.c) := by
  have hn := harr.n
  have hc := harr.c
  have hlen : (xs.take n).length = n := by rw [List.length_take]; omega
  refine ⟨m.a, m.c, by rw [hlen], ⟨by omega, fun e => harr.nil e⟩, fun i x hx => ?_⟩
  have hi : i < n := by rw [← hlen]; exact (List.getElem?_eq_some_iff.1 hx).1
  rw [List.getElem?_take, if_pos hi] at hx
  cases hma : m.a with
  | none =>
    have := harr.nil hma
    omega
  | some a =>
    obtain ⟨g1, g2, cs', e, g3, g4, g5⟩ := harr.row a hma
    obtain ⟨us', f1, f2, f3⟩ := g5 i x hx
    obtain ⟨b, o, sp⟩ := a
    simp only at g1
    subst g1
    exact ⟨b, o, rfl, ho2 b g2 (Array.getElem?_eq_some_iff.1 g3).1, us', f1, t.rep_mono kk x us' f2, fun j u hu => by rw [cell_at g3]; exact f3 j u hu⟩
theorem viewR_ok (hs : HS B S0 μ H w) (hS : ∀ b, Stb B S0 μ H w b → St b) : ∀ {cs : List AV} {vs : List Value} {l : List AV}, (cs.all notOwn = true ∨ ∀ b, B.z b → b < w.heap.size → St b) →
    RVs (Stb B S0 μ H w) w μ cs vs → (viewR cs).run H = some l → RVs St w μ l vs
  | [], vs, l, _, hv, hr => by cases hr; exact hv
  | c :: cs, vs, l, ho, hv, hr => by
    obtain ⟨u, us, rfl, h1, h2⟩ := hv
    have ho' : cs.all notOwn = true ∨ ∀ b, B.z b → b < w.heap.size → St b := by
      rcases ho with ho | ho
      · simp only [List.all_cons, Bool.and_eq_true] at ho
        exact Or.inl ho.2
      · exact Or.inr ho
    have kk : Keeps (Stb B S0 μ H w) St w w := ⟨hS, fun _ _ => rfl⟩
    cases c with
    | own h =>
      have ho2 : ∀ b, B.z b → b < w.heap.size → St b := by
        rcases ho with ho | ho
        · simp [notOwn] at ho
        · exact ho
      change (match H h with
        | some (.arr t xs) => (viewR cs).bind fun l => Rd.ok (AV.sl t xs :: l)
        | _ => Rd.bad).run H = some l at hr
      cases hh : H h with
      | none => rw [hh] at hr; cases hr
      | some ob =>
        rw [hh] at hr
        cases ob with
        | box _ => cases hr
        | mp _ _ _ => cases hr
        | tab _ _ _ _ => cases hr
        | tbx _ _ => cases hr
        | trow _ _ => cases hr
        | arr t xs =>
          obtain ⟨l', hl', hr⟩ := bind_ok hr
          cases hr
          obtain ⟨m, hm, rfl⟩ := h1
          obtain ⟨m', q1, harr⟩ := hs.obj h _ hh
          rw [hm] at q1
          cases q1
          refine ⟨_, us, rfl, ⟨m.a, m.c, by rw [harr.n], ⟨by have := harr.n; have := harr.c; omega, fun e => harr.nil e⟩, fun i x hx => ?_⟩, viewR_ok hs hS ho' h2 hl'⟩
          have hil : i < xs.length := (List.getElem?_eq_some_iff.1 hx).1
          cases hma : m.a with
          | none =>
            have := harr.nil hma
            have := harr.n
            have := harr.c
            omega
          | some a =>
            obtain ⟨g1, g2, cs', e, g3, g4, g5⟩ := harr.row a hma
            obtain ⟨us', f1, f2, f3⟩ := g5 i x hx
            obtain ⟨b, o, sp⟩ := a
            simp only at g1
            subst g1
            exact ⟨b, o, rfl, ho2 b g2 (Array.getElem?_eq_some_iff.1 g3).1, us', f1, t.rep_mono kk x us' f2, fun j u hu => by rw [cell_at g3]; exact f3 j u hu⟩
    | pre h n =>
      have ho2 : ∀ b, B.z b → b < w.heap.size → St b := by
        rcases ho with ho | ho
        · simp [notOwn] at ho
        · exact ho
      change (match H h with
        | some (.arr t xs) => (viewR cs).bind fun l => Rd.ok (AV.sl t (xs.take n) :: l)
        | _ => Rd.bad).run H = some l at hr
      cases hh : H h with
      | none => rw [hh] at hr; cases hr
      | some ob =>
        rw [hh] at hr
        cases ob with
        | box _ => cases hr
        | mp _ _ _ => cases hr
        | tab _ _ _ _ => cases hr
        | tbx _ _ => cases hr
        | trow _ _ => cases hr
        | arr t xs =>
          obtain ⟨l', hl', hr⟩ := bind_ok hr
          cases hr
          obtain ⟨m, hm, hle, rfl⟩ := h1
          obtain ⟨m', q1, harr⟩ := hs.obj h _ hh
          rw [hm] at q1
          cases q1
          exact ⟨_, us, rfl, arr_pre harr kk ho2 hle, viewR_ok hs hS ho' h2 hl'⟩
    | suf h n =>
      have ho2 : ∀ b, B.z b → b < w.heap.size → St b := by
        rcases ho with ho | ho
        · simp [notOwn] at ho
        · exact ho
      change (match H h with
        | some (.arr t xs) => (viewR cs).bind fun l => Rd.ok (AV.sl t (xs.drop n) :: l)
        | _ => Rd.bad).run H = some l at hr
      cases hh : H h with
      | none => rw [hh] at hr; cases hr
      | some ob =>
        rw [hh] at hr
        cases ob with
        | box _ => cases hr
        | mp _ _ _ => cases hr
        | tab _ _ _ _ => cases hr
        | tbx _ _ => cases hr
        | trow _ _ => cases hr
        | arr t xs =>
          obtain ⟨l', hl', hr⟩ := bind_ok hr
          cases hr
          obtain ⟨m, hm, hle, rfl⟩ := h1
          obtain ⟨m', q1, harr⟩ := hs.obj h _ hh
          rw [hm] at q1
          cases q1
          exact ⟨_, us, rfl, arr_suf harr kk ho2 hle, viewR_ok hs hS ho' h2 hl'⟩
    | _ =>
      obtain ⟨l', hl', hr⟩ := bind_ok hr
      cases hr
      exact ⟨_, us, rfl, RV.mono kk (fun _ _ h => h) _ _ h1, viewR_ok hs hS ho' h2 hl'⟩

theorem viewArgs_ok (hs : HS B S0 μ H w) (hS : ∀ b, Stb B S0 μ H w b → St b) : ∀ {cs : List AV} {vs : List Value} {l : List AV}, (noOwn cs = true ∨ ∀ b, B.z b → b < w.heap.size → St b) →
    RVs (Stb B S0 μ H w) w μ cs vs → (viewArgs cs).run H = some l → RVs St w μ l vs
  | [], vs, l, _, hv, hr => by cases hr; exact hv
  | c :: cs, vs, l, ho, hv, hr => by
    obtain ⟨u, us, rfl, h1, h2⟩ := hv
    have ho' : noOwn cs = true ∨ ∀ b, B.z b → b < w.heap.size → St b := by
      rcases ho with ho | ho
      · unfold noOwn at ho ⊢
        rw [lall_eq] at ho ⊢
        simp only [List.all_cons, Bool.and_eq_true] at ho
        exact Or.inl ho.2
      · exact Or.inr ho
    have plain : (∀ xs, c ≠ .agg xs) → ((viewR [c]).bind fun l => (viewArgs cs).bind fun q => Rd.ok (lapp l q)).run H = some l → RVs St w μ l (u :: us) := by
      intro hc hr
      obtain ⟨l1, hl1, hr⟩ := bind_ok hr
      obtain ⟨l2, hl2, hr⟩ := bind_ok hr
      cases hr
      rw [lapp_eq]
      have e : u :: us = [u] ++ us := rfl
      rw [e]
      refine RVs.append (viewR_ok (cs := [c]) (vs := [u]) hs hS ?_ ⟨u, [], rfl, h1, rfl⟩ hl1) (viewArgs_ok hs hS ho' h2 hl2)
      rcases ho with ho | ho
      · left
        unfold noOwn at ho
        rw [lall_eq] at ho
        simp only [List.all_cons, Bool.and_eq_true] at ho
        have := ho.1
        cases c <;> first | rfl | (simp at this) | (exact absurd rfl (hc _))
      · exact Or.inr ho
    cases c with
    | agg xs =>
      obtain ⟨l1, hl1, hr⟩ := bind_ok hr
      obtain ⟨l2, hl2, hr⟩ := bind_ok hr
      cases hr
      obtain ⟨vs', rfl, h3⟩ := h1
      refine ⟨_, us, rfl, ⟨vs', rfl, viewR_ok hs hS ?_ h3 hl1⟩, viewArgs_ok hs hS ho' h2 hl2⟩
      rcases ho with ho | ho
      · left
        unfold noOwn at ho
        rw [lall_eq] at ho
        simp only [List.all_cons, Bool.and_eq_true] at ho
        have := ho.1
        rw [lall_eq] at this
        exact this
      · exact Or.inr ho
    | _ => exact plain (fun xs h => by cases h) hr

theorem oneArg_ok {t : Ty} {v : AV} {u : Value} {x : t.D} (h : oneArg t v = some x) (hv : RV St w μ v u) : RV St w (fun _ => none) (oneRes t x) u := by
  have strct : ∀ {t : Ty} {cs : List AV} {x : t.D} {vs : List Value}, t.ofCells cs = some (x, []) → RVs St w μ cs vs → RVs St w (fun _ => none) (t.toCells x) vs := by
    intro t cs x vs h1 h2
    obtain ⟨us, ws, rfl, h3, h4⟩ := t.rep_of_cells cs x [] vs h1 h2
    simp only [RVs] at h4
    subst h4
    rw [List.append_nil]
    exact t.cells_of_rep x us h3
  have single : ∀ {t : Ty} {v : AV} {x : t.D}, t.ofCells [v] = some (x, []) → RV St w μ v u → RVs St w (fun _ => none) (t.toCells x) [u] := fun h1 h2 => strct h1 ⟨u, [], rfl, h2, rfl⟩
  have one : ∀ {c : AV}, RVs St w (fun _ => none) [c] [u] → RV St w (fun _ => none) c u := by
    rintro c ⟨u', us, e, h1, _⟩
    cases e
    exact h1
  unfold oneArg at h
  split at h
  · rename_i a cs
    split at h
    · rename_i y hy
      cases h
      obtain ⟨vs, rfl, h2⟩ := hv
      exact ⟨vs, rfl, strct (t := .one a) hy h2⟩
    · cases h
  · rename_i a r cs
    split at h
    · rename_i y hy
      cases h
      obtain ⟨vs, rfl, h2⟩ := hv
      exact ⟨vs, rfl, strct (t := .fld a r) hy h2⟩
    · cases h
  · split at h
    · rename_i y hy
      cases h
      exact one (single hy hv)
    · cases h
  · split at h
    · rename_i y hy
      cases h
      exact one (single hy hv)
    · cases h
  · split at h
    · rename_i y hy
      cases h
      exact one (single hy hv)
    · cases h
  · split at h
    · rename_i y hy
      cases h
      exact one (single hy hv)
    · cases h
  · cases h

theorem allArgs_ok : ∀ {t : Ty} {vs : List AV} {us : List Value} {x : t.D}, allArgs t vs = some x → RVs St w μ vs us → RVs St w (fun _ => none) (allRes t x) us
  | .one a, vs, us, x, h, hv => by
    have h' : (match (generalizing := false) vs with | [] => none | v :: q => (match q with | [] => oneArg a v | _ :: _ => none)) = some x := h
    cases vs with
    | nil => cases h'
    | cons v q =>
      cases q with
      | cons _ _ => cases h'
      | nil =>
        obtain ⟨u, us', rfl, h1, h2⟩ := hv
        simp only [RVs] at h2
        subst h2
        exact ⟨u, [], rfl, oneArg_ok h' h1, rfl⟩
  | .fld a r, vs, us, x, h, hv => by
    have h' : (match (generalizing := false) vs with
      | [] => none
      | v :: q => (match oneArg a v with
        | some x => (match allArgs r q with | some y => some (x, y) | none => none)
        | none => none)) = some x := h
    cases vs with
    | nil => cases h'
    | cons v q =>
      simp only at h'
      split at h'
      · rename_i x1 hx1
        split at h'
        · rename_i y hy
          cases h'
          obtain ⟨u, us', rfl, h1, h2⟩ := hv
          exact ⟨u, us', rfl, oneArg_ok hx1 h1, allArgs_ok hy h2⟩
        · cases h'
      · cases h'
  | .int _, vs, us, x, h, hv => by cases h
  | .bool, vs, us, x, h, hv => by
    cases vs with
    | nil => exact hv
    | cons _ _ => cases h
  | .str, vs, us, x, h, hv => by cases h
  | .sl _, vs, us, x, h, hv => by cases h

theorem orB_true {a b : Bool} (h : orB a b = true) : a = true ∨ b = true := by cases a <;> cases b <;> simp_all [orB]

theorem clean1_ok {St St' : Nat → Prop} {w w' : World} {μ μ' : Nat → Option Wh} (he : Ext μ μ') {c : AV} {v : Value} (h : clean1 c = true) (hv : RV St w μ c v) : RV St' w' μ' c v := by
  cases c <;> first | (cases h; done) | exact hv | skip
  obtain ⟨m, h1, h2⟩ := hv
  exact ⟨m, he _ _ h1, h2⟩
theorem clean1s_ok {St St' : Nat → Prop} {w w' : World} {μ μ' : Nat → Option Wh} (he : Ext μ μ') : ∀ {cs : List AV} {vs : List Value}, cs.all clean1 = true → RVs St w μ cs vs → RVs St' w' μ' cs vs
  | [], vs, _, hv => hv
  | c :: cs, vs, h, hv => by
    obtain ⟨u, us, rfl, h1, h2⟩ := hv
    simp only [List.all_cons, Bool.and_eq_true] at h
    exact ⟨u, us, rfl, clean1_ok he h.1 h1, clean1s_ok he h.2 h2⟩
theorem clean2_ok {St St' : Nat → Prop} {w w' : World} {μ μ' : Nat → Option Wh} (he : Ext μ μ') {c : AV} {v : Value} (h : clean2 c = true) (hv : RV St w μ c v) : RV St' w' μ' c v := by
  unfold clean2 at h
  split at h
  · rw [lall_eq] at h
    obtain ⟨vs, rfl, h2⟩ := hv
    exact ⟨vs, rfl, clean1s_ok he h h2⟩
  · exact clean1_ok he h hv
theorem cleans_ok {St St' : Nat → Prop} {w w' : World} {μ μ' : Nat → Option Wh} (he : Ext μ μ') : ∀ {cs : List AV} {vs : List Value}, cs.all clean2 = true → RVs St w μ cs vs → RVs St' w' μ' cs vs
  | [], vs, _, hv => hv
  | c :: cs, vs, h, hv => by
    obtain ⟨u, us, rfl, h1, h2⟩ := hv
    simp only [List.all_cons, Bool.and_eq_true] at h
    exact ⟨u, us, rfl, clean2_ok he h.1 h1, cleans_ok he h.2 h2⟩
theorem tupOf_clean {St St' : Nat → Prop} {w w' : World} {μ μ' : Nat → Option Wh} (he : Ext μ μ') {l : List AV} {v : Value} (h : l.all clean2 = true) (hv : RV St w μ (tupOf l) v) : RV St' w' μ' (tupOf l) v := by
  match l, h, hv with
  | [], h, hv => exact hv
  | [c], h, hv =>
    simp only [List.all_cons, List.all_nil, Bool.and_true] at h
    exact clean2_ok he h hv
  | a :: b :: r, h, hv =>
    obtain ⟨vs, rfl, h2⟩ := hv
    exact ⟨vs, rfl, cleans_ok he h h2⟩

theorem upds_some {u : List (Nat × Option Ob)} (hu : ∀ p ∈ u, p.2 ≠ none) : ∀ (H : Nat → Option Ob) (q : Nat), upds H u q = match upds (fun _ => none) u q with | some o => some o | none => H q := by
  induction u with
  | nil => intro H q; rfl
  | cons p u ih =>
    obtain ⟨h, o⟩ := p
    have ho : o ≠ none := hu (h, o) List.mem_cons_self
    have ih := ih fun p hp => hu p (List.mem_cons_of_mem _ hp)
    intro H q
    rw [upds_cons, upds_cons, ih (upd H h o), ih (upd (fun _ => none) h o)]
    cases upds (fun _ => none) u q with
    | some _ => rfl
    | none =>
      by_cases e : q = h
      · subst e
        rw [upd_same, upd_same]
        cases o with
        | none => exact absurd rfl ho
        | some _ => rfl
      · rw [upd_other _ e, upd_other _ e]
theorem upds_mem {u : List (Nat × Option Ob)} : ∀ {H : Nat → Option Ob} {q : Nat} {o : Ob}, upds H u q = some o → H q = some o ∨ (q, some o) ∈ u := by
  induction u with
  | nil => intro H q o h; exact Or.inl h
  | cons p u ih =>
    obtain ⟨h, o'⟩ := p
    intro H q o hq
    rw [upds_cons] at hq
    rcases ih hq with h1 | h1
    · by_cases e : q = h
      · subst e
        rw [upd_same] at h1
        subst h1
        exact Or.inr List.mem_cons_self
      · rw [upd_other _ e] at h1
        exact Or.inl h1
    · exact Or.inr (List.mem_cons_of_mem _ h1)

/-- A function with a body, and its contract. -/
structure FnOk (P : Program) (f : FuncId) (k : Fn1) : Prop where
  body : ∃ fn c, P.funcs[f]? = some fn ∧ (fn.name == "runtime.NumGoroutine") = false ∧ fn.body = some c
  sound : k.SoundX P f []
/-- .. where the last argument is a function. -/
structure FnOkF (P : Program) (f : FuncId) (g : Nat) (k : Fn1) : Prop where
  body : ∃ fn c, P.funcs[f]? = some fn ∧ (fn.name == "runtime.NumGoroutine") = false ∧ fn.body = some c
  sound : k.SoundX P f [.func (.func g) #[] #[]]
/-- A function that turns its caller's memory, and what it does. -/
structure FxOk (P : Program) (f : FuncId) (X : List AV → Nat → Rd Res) : Prop where
  body : ∃ fn c, P.funcs[f]? = some fn ∧ (fn.name == "runtime.NumGoroutine") = false ∧ fn.body = some c
  sound : ∀ {B : Zn} {S0 : Nat → Prop} {μ : Nat → Option Wh} {H : Nat → Option Ob} {w : World} {base : Nat} {args : List AV} {vals : List Value} {r : Res}, HS B S0 μ H w → (∀ q, base ≤ q → q < base + 8 → μ q = none) →
    RVs (Stb B S0 μ H w) w μ args vals → (X args base).run H = some r → (∀ p ∈ r.ps, p) → Calls P f vals.toArray w fun e w' => ∃ v μ', e = .returned v ∧ Done B S0 μ H w base (upds H r.ups) r.val v μ' w'
def CtrOk (P : Program) (f : FuncId) : Ctr → Prop
  | .plain k => FnOk P f k
  | .fixd g k => FnOkF P f g k
  | .eff X => FxOk P f X
theorem dropFn_ok {St : Nat → Prop} {w : World} {μ : Nat → Option Wh} {g : Nat} : ∀ {args as : List AV} {vals : List Value}, dropFn g args = some as → RVs St w μ args vals → ∃ vs, vals = vs ++ [.func (.func g) #[] #[]] ∧ RVs St w μ as vs
  | [], as, vals, h, _ => by cases h
  | [v], as, vals, h, hv => by
    have h' : (match isFn g v with | true => some [] | false => none) = some as := h
    split at h'
    · rename_i hf
      cases h'
      obtain ⟨u, us, rfl, h1, h2⟩ := hv
      simp only [RVs] at h2
      subst h2
      cases v <;> first | (cases hf; done) | skip
      rename_i f caps
      cases caps with
      | cons _ _ => cases hf
      | nil =>
        have hfg : f = g := Nat.eq_of_beq_eq_true hf
        subst hfg
        obtain ⟨vs, rfl, hvs⟩ := h1
        simp only [RVs] at hvs
        subst hvs
        exact ⟨[], rfl, rfl⟩
    · cases h'
  | v :: x :: r, as, vals, h, hv => by
    have h' : (match dropFn g (x :: r) with | some q => some (v :: q) | none => none) = some as := h
    split at h'
    · rename_i q hq
      cases h'
      obtain ⟨u, us, rfl, h1, h2⟩ := hv
      obtain ⟨vs, rfl, h3⟩ := dropFn_ok hq h2
      exact ⟨u :: vs, rfl, u, vs, rfl, h1, h3⟩
    · cases h'

theorem run_callFunc_enter' {f : FuncId} {fn : Func} {c : Code} (hf : P.funcs[f]? = some fn) (hname : (fn.name == "runtime.NumGoroutine") = false) (hb : fn.body = some c) (args : Array Value) (w : World) :
    (callFunc f args).run P w = .ok (.enter f args) w := by
  have h1 : fn.name ≠ "runtime.NumGoroutine" := by simpa using hname
  simp [callFunc, hf, h1, hb]

theorem callK_ok (hs : HS B S0 μ H w) {base f : Nat} {k : Fn1} {ex : List Value} (hsound : k.SoundX P f ex) (hm : ∀ q, base ≤ q → q < base + 8 → μ q = none) {args : List AV} {vals : List Value} {r : Res}
    (hv : RVs (Stb B S0 μ H w) w μ args vals) (hr : (callK k args base).run H = some r) (hp : ∀ p ∈ r.ps, p) :
    Calls P f (vals ++ ex).toArray w fun e w' => ∃ v μ', e = .returned v ∧ Done B S0 μ H w base (upds H r.ups) r.val v μ' w' := by
  unfold callK at hr
  · obtain ⟨vs, hvs, hr⟩ := bind_ok hr
    split at hr
    · rename_i a ha
      split at hr
      · rename_i hchk
        obtain ⟨c12, c3⟩ := andB_true hchk
        obtain ⟨c1, c2⟩ := andB_true c12
        have c1 := Nat.le_of_ble_eq_true c1
        rw [lall_eq] at c2
        cases hr
        generalize hl : (adopt (allRes k.outs (k.res a)) base).1 = l at *
        generalize hu : (adopt (allRes k.outs (k.res a)) base).2.1 = u at *
        generalize hn : (adopt (allRes k.outs (k.res a)) base).2.2 = n at *
        let S1 : Nat → Prop := fun b => (noOwn args = true ∧ Stb B S0 μ H w b) ∨ (noOwn args = false ∧ (S0 b ∨ B.z b) ∧ b < w.heap.size)
        have hS : ∀ b, Stb B S0 μ H w b → S1 b := by
          intro b hb
          cases hno : noOwn args with
          | true => exact Or.inl ⟨hno, hb⟩
          | false => exact Or.inr ⟨hno, hb.1, hb.2.1⟩
        have hS0 : ∀ b, S1 b → b < w.heap.size := by
          rintro b (⟨_, h⟩ | ⟨_, _, h⟩)
          · exact h.2.1
          · exact h
        have hview := viewArgs_ok (St := S1) hs hS (by
          by_cases hno : noOwn args = true
          · exact Or.inl hno
          · exact Or.inr fun b h1 h2 => Or.inr ⟨by simpa using hno, Or.inr h1, h2⟩) hv hvs
        have hargs := allArgs_ok ha hview
        refine (hsound w S1 vals a hS0 hargs hp base).mono ?_
        rintro e w' ⟨v, rfl, hbel, μ1, hμ1, hs1, hv1⟩
        rw [hu, hn] at *
        rw [hl] at hv1
        have hsome : ∀ p ∈ u, p.2 ≠ none := by
          intro p hp e
          have := List.all_eq_true.1 c2 p hp
          unfold isArr at this
          rw [e] at this
          cases this
        let μ' : Nat → Option Wh := fun q => match μ1 q with | some m => some m | none => μ q
        have hin : ∀ q m, μ1 q = some m → base ≤ q ∧ q < base + 8 := by
          intro q m h
          refine ⟨Nat.le_of_not_lt fun hlt => ?_, Nat.lt_of_not_le fun hle => ?_⟩
          · rw [hμ1 q (Or.inl hlt)] at h; cases h
          · rw [hμ1 q (Or.inr (by omega))] at h; cases h
        have hext : Ext μ μ' := by
          intro q m h
          show (match μ1 q with | some m => some m | none => μ q) = some m
          cases h1 : μ1 q with
          | none => exact h
          | some m1 =>
            have := hin q m1 h1
            rw [hm q this.1 this.2] at h
            cases h
        have hext1 : Ext μ1 μ' := by
          intro q m h
          show (match μ1 q with | some m => some m | none => μ q) = some m
          rw [h]
        have hH' : ∀ q, upds H u q = match upds (fun _ => none) u q with | some o => some o | none => H q := upds_some hsome H
        have hlive1 : ∀ q, upds (fun _ => none) u q ≠ none → ∃ m, μ1 q = some m := by
          intro q hq
          cases ho : upds (fun _ => none) u q with
          | none => exact absurd ho hq
          | some o => exact (hs1.obj q o ho).told
        have hnewblk : ∀ q b, upds (fun _ => none) u q ≠ none → blk μ' q = some b → blk μ1 q = some b ∧ w.heap.size ≤ b := by
          intro q b hq hb
          obtain ⟨m, hm1⟩ := hlive1 q hq
          have : blk μ1 q = some b := by
            unfold blk at hb ⊢
            rw [hext1 q m hm1] at hb
            rw [hm1]
            exact hb
          exact ⟨this, (hs1.in_ ⟨q, hq, this⟩).1⟩
        have hold : ∀ q, upds (fun _ => none) u q = none → H q ≠ none → blk μ' q = blk μ q := by
          intro q hq hHq
          have : ∃ m, μ q = some m := by
            cases ho : H q with
            | none => exact absurd ho hHq
            | some o => exact (hs.obj q o ho).told
          obtain ⟨m, hmq⟩ := this
          unfold blk
          rw [hext q m hmq, hmq]
        have parts : ∀ q, upds H u q ≠ none → upds (fun _ => none) u q ≠ none ∨ (upds (fun _ => none) u q = none ∧ H q ≠ none) := by
          intro q hq
          rw [hH' q] at hq
          cases h1 : upds (fun _ => none) u q with
          | some o => exact Or.inl (by simp)
          | none => rw [h1] at hq; exact Or.inr ⟨rfl, hq⟩
        have hch : ∀ b, b < w.heap.size → ¬ BlkOf μ H b → w'.heap[b]? = w.heap[b]? := fun b hb _ => hbel.block b hb
        have hnew : ∀ b, BlkOf μ' (upds H u) b → b < w.heap.size → BlkOf μ H b := by
          rintro b ⟨q, hq, hb⟩ hlt
          rcases parts q hq with h1 | ⟨h1, h2⟩
          · have := (hnewblk q b h1 hb).2
            omega
          · rw [hold q h1 h2] at hb
            exact ⟨q, h2, hb⟩
        have kp := keeps_of (B := B) (S0 := S0) hbel.size hch hnew
        have hincl : noOwn args = true → ∀ b, Stb (.of w.heap.size) S1 μ1 (upds (fun _ => none) u) w' b → Stb B S0 μ' (upds H u) w' b := by
          rintro hno b ⟨h1, h2, h3⟩
          refine ⟨?_, h2, ?_⟩
          · rcases h1 with (⟨_, h⟩ | ⟨h, _⟩) | h
            · exact h.1
            · rw [hno] at h; cases h
            · exact Or.inr (hs.bsz.all _ h)
          · rintro ⟨q, hq, hb⟩
            rcases parts q hq with g1 | ⟨g1, g2⟩
            · exact h3 ⟨q, g1, (hnewblk q b g1 hb).1⟩
            · rw [hold q g1 g2] at hb
              have hbb := hs.in_ ⟨q, g2, hb⟩
              rcases h1 with (⟨_, h⟩ | ⟨h, _⟩) | h
              · exact h.2.2 ⟨q, g2, hb⟩
              · rw [hno] at h; cases h
              · have h : w.heap.size ≤ b := h
                omega
        have hs' : HS B S0 μ' (upds H u) w' := by
          refine hs.step hext hbel.size hch hnew (fun q o ho => ?_) (fun q q' b h1 h2 b1 b2 => ?_)
          · rcases parts q (by rw [ho]; simp) with g1 | ⟨g1, g2⟩
            · right
              have ho1 : upds (fun _ => none) u q = some o := by
                rw [hH' q] at ho
                cases h1 : upds (fun _ => none) u q with
                | none => exact absurd h1 g1
                | some o1 => rw [h1] at ho; exact ho
              have hob := hs1.obj q o ho1
              have hmem : (q, some o) ∈ u := (upds_mem ho1).resolve_left (by simp)
              have harr := List.all_eq_true.1 c2 _ hmem
              cases o with
              | box _ => cases harr
              | mp _ _ _ => cases harr
              | tab _ _ _ _ => cases harr
              | tbx _ _ => cases harr
              | trow _ _ => cases harr
              | arr t xs =>
                obtain ⟨m, hm1, har⟩ := hob
                refine ⟨m, hext1 q m hm1, har.sz, har.n, har.c, har.nil, fun ad had => ?_⟩
                obtain ⟨r1, r2, cs, e, r3, r4, r5⟩ := har.row ad had
                refine ⟨r1, hs.bsz.all _ r2, cs, e, r3, r4, fun i x hx => ?_⟩
                obtain ⟨us, s1, s2, s3⟩ := r5 i x hx
                refine ⟨us, s1, ?_, s3⟩
                rcases orB_true c3 with c3 | c3
                · obtain ⟨_, c5⟩ := andB_true c3
                  rw [lall_eq] at c5
                  exact Ty.rep_flat (List.all_eq_true.1 c5 _ hmem) s2
                · exact t.rep_mono ⟨hincl c3, fun _ _ => rfl⟩ _ _ s2
            · left
              have : H q = some o := by rw [hH' q, g1] at ho; exact ho
              exact ⟨this, fun b hb => hbel.block b (hs.in_ ⟨q, g2, hb⟩).2⟩
          · rcases parts q h1 with g1 | ⟨g1, g2⟩ <;> rcases parts q' h2 with g3 | ⟨g3, g4⟩
            · exact hs1.sep q q' b g1 g3 (hnewblk q b g1 b1).1 (hnewblk q' b g3 b2).1
            · have := (hnewblk q b g1 b1).2
              rw [hold q' g3 g4] at b2
              have := (hs.in_ ⟨q', g4, b2⟩).2
              omega
            · have := (hnewblk q' b g3 b2).2
              rw [hold q g1 g2] at b1
              have := (hs.in_ ⟨q, g2, b1⟩).2
              omega
            · rw [hold q g1 g2] at b1
              rw [hold q' g3 g4] at b2
              exact hs.sep q q' b g2 g4 b1 b2
        refine ⟨v, μ', rfl, hext, fun q hq => ?_, hs', kp, ?_, ?_⟩
        · show (match μ1 q with | some m => some m | none => μ q) = μ q
          cases h1 : μ1 q with
          | none => rfl
          | some m1 =>
            have := hin q m1 h1
            omega
        · rcases orB_true c3 with c3 | c3
          · obtain ⟨c4, _⟩ := andB_true c3
            rw [lall_eq] at c4
            exact tupOf_clean hext1 c4 hv1
          · exact RV.mono ⟨hincl c3, fun _ _ => rfl⟩ hext1 _ _ hv1
        · exact hbel.mono hs.bsz
      · cases hr
    · cases hr
theorem call_ok (hK : ∀ f k, findK E.K f = some k → CtrOk P f k) (hs : HS B S0 μ H w) {base f : Nat} (hm : ∀ q, base ≤ q → q < base + 8 → μ q = none) {args : List AV} {vals : List Value} {r : Res}
    (hv : RVs (Stb B S0 μ H w) w μ args vals) (hr : (callR E f args base).run H = some r) (hp : ∀ p ∈ r.ps, p) :
    (callFunc f vals.toArray).run P w = .ok (.enter f vals.toArray) w ∧
    Calls P f vals.toArray w fun e w' => ∃ v μ', e = .returned v ∧ Done B S0 μ H w base (upds H r.ups) r.val v μ' w' := by
  unfold callR at hr
  split at hr
  · rename_i k hk
    obtain ⟨⟨fn, c, b1, b2, b3⟩, hsound⟩ := hK f _ hk
    refine ⟨run_callFunc_enter' b1 b2 b3 _ _, ?_⟩
    have := callK_ok hs hsound hm hv hr hp
    rwa [List.append_nil] at this
  · rename_i g k hk
    obtain ⟨⟨fn, c, b1, b2, b3⟩, hsound⟩ := hK f _ hk
    refine ⟨run_callFunc_enter' b1 b2 b3 _ _, ?_⟩
    split at hr
    · rename_i as has
      obtain ⟨vs, rfl, hvs⟩ := dropFn_ok has hv
      exact callK_ok hs hsound hm hvs hr hp
    · cases hr
  · rename_i X hk
    obtain ⟨⟨fn, c, b1, b2, b3⟩, hsound⟩ := hK f _ hk
    exact ⟨run_callFunc_enter' b1 b2 b3 _ _, hsound hs hm hv hr hp⟩
  · cases hr
end
end Go.Proofs.YtaafjaibaaiigaaGreatDoor.Eng
/- Every operation against the model. Written for this seat's proofs. -/
set_option linter.unusedVariables false
set_option linter.unusedSimpArgs false
namespace Go.Proofs.YtaafjaibaaiigaaGreatDoor.Eng
open Go Go.RowKit

section
variable {P : Program} {E : Env} {B : Zn} {S0 : Nat → Prop} {μ : Nat → Option Wh} {H H' : Nat → Option Ob} {w w' : World} {St : Nat → Prop}

theorem slice_ok (hT : TOk P E) (hs : HS B S0 μ H w) {base t : Nat} (hm : μ base = none) {x : AV} {lo hi : Option AV} {vx : Value} {vlo vhi : Option Value} {r : Res} (hx : RV (Stb B S0 μ H w) w μ x vx)
    (hlo : match lo, vlo with | some l, some v => RV (Stb B S0 μ H w) w μ l v | none, none => True | _, _ => False) (hhi : match hi, vhi with | some l, some v => RV (Stb B S0 μ H w) w μ l v | none, none => True | _, _ => False)
    (hr : (sliceR E t base x lo hi).run H = some r) (hp : ∀ p ∈ r.ps, p) :
    ∃ u μ', (Instr.sliceAt t vx vlo vhi none).run P w = .ok u w ∧ Done B S0 μ H w base (upds H r.ups) r.val u μ' w := by
  have quiet : ∀ {c : AV} {ps : List Prop} {u : Value}, r = ⟨ps, c, []⟩ → (Instr.sliceAt t vx vlo vhi none).run P w = .ok u w → RV (Stb B S0 μ H w) w μ c u → ∃ u μ', (Instr.sliceAt t vx vlo vhi none).run P w = .ok u w ∧ Done B S0 μ H w base (upds H r.ups) r.val u μ' w := by
    rintro c ps u rfl h1 h2
    exact ⟨u, μ, h1, Done.quiet hs h2⟩
  have strs : ∀ {s : ByteArray} {l h : Nat}, (E.ti t).kind = 4 → vx = .string s → (Instr.sliceBounds false s.size s.size vlo vhi none).run P w = .ok (l, h, s.size) w → (Instr.sliceAt t vx vlo vhi none).run P w = .ok (.string (s.extract l h)) w := by
    rintro s l h hk rfl hb
    exact run_slice_str ((hT t (by rw [hk]; decide)).k4 hk) hb
  unfold sliceR at hr
  split at hr
  · rename_i s k1 l k2 h
    cases hx
    cases vlo <;> simp only at hlo
    cases vhi <;> simp only at hhi
    cases hlo
    cases hhi
    split at hr
    · rename_i hk
      cases hr
      have p1 : 0 ≤ l := hp _ List.mem_cons_self
      have p2 : l ≤ h := hp _ (List.mem_cons_of_mem _ List.mem_cons_self)
      have p3 : h ≤ (s.size : Int) := hp _ (List.mem_cons_of_mem _ (List.mem_cons_of_mem _ List.mem_cons_self))
      exact quiet rfl (strs hk rfl (run_bounds (run_sliceB (by omega) p3) (run_sliceB p1 (by omega)))) rfl
    · cases hr
  · rename_i s k2 h
    cases hx
    cases vlo <;> simp only at hlo
    cases vhi <;> simp only at hhi
    cases hhi
    split at hr
    · rename_i hk
      cases hr
      have p1 : 0 ≤ h := hp _ List.mem_cons_self
      have p3 : h ≤ (s.size : Int) := hp _ (List.mem_cons_of_mem _ List.mem_cons_self)
      exact quiet rfl (strs hk rfl (run_bounds (run_sliceB (by omega) p3) rfl)) rfl
    · cases hr
  · rename_i s k2 h
    cases hx
    cases vlo <;> simp only at hlo
    cases vhi <;> simp only at hhi
    cases hlo
    split at hr
    · rename_i hk
      cases hr
      have p1 : 0 ≤ h := hp _ List.mem_cons_self
      have p3 : h ≤ (s.size : Int) := hp _ (List.mem_cons_of_mem _ List.mem_cons_self)
      exact quiet rfl (strs hk rfl (run_bounds rfl (run_sliceB (by omega) p3))) rfl
    · cases hr
  · rename_i ty xs k1 l k2 h
    obtain ⟨a, c, rfl, hac, hrow⟩ := hx
    have hac1 := hac.1
    cases vlo <;> simp only at hlo
    cases vhi <;> simp only at hhi
    cases hlo
    cases hhi
    split at hr
    · rename_i hk hsz
      obtain ⟨hke, hsize⟩ := eqSize_of hsz
      have hu := (hT t (by rw [hk]; decide)).k1 hk
      have hsr := run_sizeOf_ti (P := P) (w := w) hT hke
      rw [hsize] at hsr
      cases hr
      have p1 : 0 ≤ l := hp _ List.mem_cons_self
      have p2 : l ≤ h := hp _ (List.mem_cons_of_mem _ List.mem_cons_self)
      have p3 : h ≤ (xs.length : Int) := hp _ (List.mem_cons_of_mem _ (List.mem_cons_of_mem _ List.mem_cons_self))
      exact quiet rfl (run_slice_sl hu hsr (run_bounds (run_sliceB (by omega) (by omega)) (run_sliceB p1 (by omega)))) (slice_sl (by omega) (by omega) hac hrow)
    · cases hr
  · rename_i ty xs k2 h
    obtain ⟨a, c, rfl, hac, hrow⟩ := hx
    have hac1 := hac.1
    cases vlo <;> simp only at hlo
    cases vhi <;> simp only at hhi
    cases hhi
    split at hr
    · rename_i hk hsz
      obtain ⟨hke, hsize⟩ := eqSize_of hsz
      have hu := (hT t (by rw [hk]; decide)).k1 hk
      have hsr := run_sizeOf_ti (P := P) (w := w) hT hke
      rw [hsize] at hsr
      cases hr
      have p1 : 0 ≤ h := hp _ List.mem_cons_self
      have p3 : h ≤ (xs.length : Int) := hp _ (List.mem_cons_of_mem _ List.mem_cons_self)
      have := slice_sl (μ := μ) (l := 0) (h := h.toNat) (Nat.zero_le _) (by omega) hac hrow
      rw [List.drop_zero] at this
      exact quiet rfl (run_slice_sl hu hsr (run_bounds (run_sliceB (by omega) (by omega)) rfl)) this
    · cases hr
  · rename_i ty xs k2 h
    obtain ⟨a, c, rfl, hac, hrow⟩ := hx
    have hac1 := hac.1
    cases vlo <;> simp only at hlo
    cases vhi <;> simp only at hhi
    cases hlo
    split at hr
    · rename_i hk hsz
      obtain ⟨hke, hsize⟩ := eqSize_of hsz
      have hu := (hT t (by rw [hk]; decide)).k1 hk
      have hsr := run_sizeOf_ti (P := P) (w := w) hT hke
      rw [hsize] at hsr
      cases hr
      have p1 : 0 ≤ h := hp _ List.mem_cons_self
      have p3 : h ≤ (xs.length : Int) := hp _ (List.mem_cons_of_mem _ List.mem_cons_self)
      have := slice_sl (μ := μ) (l := h.toNat) (h := xs.length) (by omega) (Nat.le_refl _) hac hrow
      rw [List.take_length] at this
      exact quiet rfl (run_slice_sl hu hsr (run_bounds rfl (run_sliceB (by omega) p3))) this
    · cases hr
  · rename_i h k l
    cases vlo <;> simp only at hlo
    cases vhi <;> simp only at hhi
    cases hlo
    change (match H h with
      | some (.arr ty xs) => (match (E.ti t).kind, eqSize (E.ti (E.ti t).elem) ty with
        | 1, true => (match E.ann 999996 with
          | none => Rd.ok (⟨[0 ≤ l, l ≤ (xs.length : Int)], .own base, [(h, none), (base, some (.arr ty (xs.drop l.toNat)))]⟩ : Res)
          | some _ => Rd.ok (⟨[0 ≤ l, l ≤ (xs.length : Int)], .suf h l.toNat, []⟩ : Res))
        | _, _ => Rd.bad)
      | _ => Rd.bad).run H = some r at hr
    cases ho : H h with
    | none => rw [ho] at hr; cases hr
    | some ob =>
      rw [ho] at hr
      cases ob with
      | box _ => cases hr
      | mp _ _ _ => cases hr
      | tab _ _ _ _ => cases hr
      | tbx _ _ => cases hr
      | trow _ _ => cases hr
      | arr ty xs =>
        simp only at hr
        split at hr
        · rename_i hk hsz
          obtain ⟨hke, hsize⟩ := eqSize_of hsz
          have hu := (hT t (by rw [hk]; decide)).k1 hk
          have hsr := run_sizeOf_ti (P := P) (w := w) hT hke
          rw [hsize] at hsr
          have hpp : r.ps = [0 ≤ l, l ≤ (xs.length : Int)] := by
            split at hr
            · cases hr; rfl
            · cases hr; rfl
          have p1 : 0 ≤ l := hp _ (by rw [hpp]; exact List.mem_cons_self)
          have p3 : l ≤ (xs.length : Int) := hp _ (by rw [hpp]; exact List.mem_cons_of_mem _ List.mem_cons_self)
          obtain ⟨m, hmh, rfl⟩ := hx
          obtain ⟨m', q1, harr⟩ := hs.obj h _ ho
          rw [hmh] at q1
          cases q1
          have hmn := harr.n
          have hmc := harr.c
          have hrun := run_slice_sl (a := m.a) (n := m.n) (c := m.c) hu hsr (run_bounds (lo := some (.int k l)) (hi := none) rfl (run_sliceB p1 (by omega)))
          split at hr
          case h_2 =>
            cases hr
            refine quiet rfl hrun ⟨m, hmh, by omega, ?_⟩
            rw [harr.sz]
          cases hr
          have hnb : base ≠ h := by rintro rfl; rw [hm] at hmh; cases hmh
          cases hma : m.a with
          | none =>
            have hc0 := harr.nil hma
            have hx0 : xs = [] := List.length_eq_zero_iff.1 (by omega)
            subst hx0
            have hl0 : l = 0 := by simp at p3; omega
            subst hl0
            obtain ⟨hs1, k1⟩ := hs.give h
            obtain ⟨hs', k⟩ := nilArr hs1 hm ty
            rw [hma] at hrun
            refine ⟨_, more μ base ⟨none, ty.size, 0, 0⟩, hrun, more_ext _ hm, fun q hq => more_other _ (pow8 hq), by simpa [upds_cons, upds_nil] using hs', by simpa [upds_cons, upds_nil] using k1.trans k, ?_, Bel.refl _ _⟩
            refine ⟨_, more_same _ _, ?_⟩
            have : m.n = 0 := by simpa using hmn
            simp [this, hc0]
          | some ad =>
            obtain ⟨r1, r2, cs, e, r3, r4, r5⟩ := harr.row ad hma
            obtain ⟨b, o, sp⟩ := ad
            simp only at r1
            subst r1
            simp only at r2 r3 r4 r5
            have hbk : blk μ h = some b := by simp [blk, hmh, hma]
            have hle : l.toNat ≤ m.c := by omega
            have hmul : l.toNat * ty.size ≤ m.c * ty.size := Nat.mul_le_mul_right _ hle
            -- where the tail begins
            have hoff : ∃ o', (if m.c = l.toNat then m.a else m.a.map (·.add (l.toNat * ty.size))) = some ⟨b, o', none⟩ ∧ (o' = o + l.toNat * ty.size ∨ (m.c = l.toNat ∧ o' = o)) := by
              by_cases hc : m.c = l.toNat
              · exact ⟨o, by rw [if_pos hc, hma], Or.inr ⟨hc, rfl⟩⟩
              · exact ⟨o + l.toNat * ty.size, by rw [if_neg hc, hma]; simp [add_plain], Or.inl rfl⟩
            obtain ⟨o', ho', hcase⟩ := hoff
            obtain ⟨hs', kk⟩ := hs.move (w' := w) (by rw [ho]; simp) hbk hm ⟨some ⟨b, o', none⟩, ty.size, (xs.drop l.toNat).length, m.c - l.toNat⟩ (.arr ty (xs.drop l.toNat)) rfl rfl (fun _ _ => rfl) (fun k => by
              refine ⟨_, more_same _ _, rfl, rfl, by rw [List.length_drop]; show xs.length - l.toNat ≤ m.c - l.toNat; omega, fun h => (by cases h), fun ad had => ?_⟩
              cases had
              refine ⟨rfl, r2, cs, e, r3, ?_, fun i x hx => ?_⟩
              · show o' + (m.c - l.toNat) * ty.size ≤ cs.size
                rw [Nat.sub_mul]
                rcases hcase with rfl | ⟨h1, rfl⟩
                · omega
                · rw [h1, Nat.sub_self]; omega
              · rw [List.getElem?_drop] at hx
                obtain ⟨us, g1, g2, g3⟩ := r5 _ x hx
                have hlt := (List.getElem?_eq_some_iff.1 hx).1
                refine ⟨us, g1, ty.rep_mono k _ _ g2, fun j u hj => ?_⟩
                have := g3 j u hj
                rw [Nat.add_mul] at this
                rcases hcase with rfl | ⟨h1, rfl⟩
                · rw [← this]
                  congr 1
                  show o + l.toNat * ty.size + i * ty.size + j = _
                  omega
                · omega)
            rw [hma] at hrun ho'
            refine ⟨_, _, hrun, more_ext _ hm, fun q hq => more_other _ (pow8 hq), hs', kk, ⟨_, more_same _ _, ?_⟩, Bel.refl _ _⟩
            rw [ho', List.length_drop, hmn]
        · cases hr
  · rename_i h k n
    cases vlo <;> simp only at hlo
    cases vhi <;> simp only at hhi
    cases hhi
    change (match H h with
      | some (.arr ty xs) => (match (E.ti t).kind, eqSize (E.ti (E.ti t).elem) ty with
        | 1, true => (match E.ann 999999 with
          | none => Rd.ok (⟨[0 ≤ n, n ≤ (xs.length : Int)], .pre h n.toNat, []⟩ : Res)
          | some _ => Rd.ok (⟨[0 ≤ n, n ≤ (xs.length : Int)], .own base, [(h, none), (base, some (.arr ty (xs.take n.toNat)))]⟩ : Res))
        | _, _ => Rd.bad)
      | _ => Rd.bad).run H = some r at hr
    cases ho : H h with
    | none => rw [ho] at hr; cases hr
    | some ob =>
      rw [ho] at hr
      cases ob with
      | box _ => cases hr
      | mp _ _ _ => cases hr
      | tab _ _ _ _ => cases hr
      | tbx _ _ => cases hr
      | trow _ _ => cases hr
      | arr ty xs =>
        simp only at hr
        split at hr
        · rename_i hk hsz
          obtain ⟨hke, hsize⟩ := eqSize_of hsz
          have hu := (hT t (by rw [hk]; decide)).k1 hk
          have hsr := run_sizeOf_ti (P := P) (w := w) hT hke
          rw [hsize] at hsr
          obtain ⟨m, hmh, rfl⟩ := hx
          obtain ⟨m', q1, harr⟩ := hs.obj h _ ho
          rw [hmh] at q1
          cases q1
          have hmn := harr.n
          have hmc := harr.c
          have hpp : r.ps = [0 ≤ n, n ≤ (xs.length : Int)] := by
            split at hr
            · cases hr; rfl
            · cases hr; rfl
          have p1 : 0 ≤ n := hp _ (by rw [hpp]; exact List.mem_cons_self)
          have p3 : n ≤ (xs.length : Int) := hp _ (by rw [hpp]; exact List.mem_cons_of_mem _ List.mem_cons_self)
          have hrun := run_slice_sl (a := m.a) (n := m.n) (c := m.c) hu hsr (run_bounds (lo := none) (hi := some (.int k n)) (run_sliceB (by omega) (by omega)) rfl)
          have ha : (if m.c = 0 then m.a else m.a.map (·.add (0 * ty.size))) = m.a := by
            split
            · rfl
            · cases hma : m.a with
              | none => rfl
              | some ad =>
                obtain ⟨r1, _⟩ := harr.row ad hma
                obtain ⟨b, o, sp⟩ := ad
                simp only at r1
                subst r1
                simp [add_plain]
          split at hr
          · cases hr
            refine quiet rfl hrun ⟨m, hmh, by omega, ?_⟩
            rw [ha, Nat.sub_zero, Nat.sub_zero]
          · cases hr
            have hnb : base ≠ h := by rintro rfl; rw [hm] at hmh; cases hmh
            rw [ha, Nat.sub_zero, Nat.sub_zero] at hrun
            cases hma : m.a with
            | none =>
              have hc0 := harr.nil hma
              have hx0 : xs = [] := List.length_eq_zero_iff.1 (by omega)
              subst hx0
              have hn0 : n = 0 := by simp at p3; omega
              subst hn0
              obtain ⟨hs1, k1⟩ := hs.give h
              obtain ⟨hs', k⟩ := nilArr hs1 hm ty
              rw [hma] at hrun
              exact ⟨_, more μ base ⟨none, ty.size, 0, 0⟩, hrun, more_ext _ hm, fun q hq => more_other _ (pow8 hq), by simpa [upds_cons, upds_nil] using hs', by simpa [upds_cons, upds_nil] using k1.trans k, ⟨_, more_same _ _, by rw [hc0]; rfl⟩, Bel.refl _ _⟩
            | some ad =>
              obtain ⟨r1, r2, cs, e, r3, r4, r5⟩ := harr.row ad hma
              obtain ⟨b, o, sp⟩ := ad
              simp only at r1
              subst r1
              simp only at r2 r3 r4 r5
              have hbk : blk μ h = some b := by simp [blk, hmh, hma]
              have htl : (xs.take n.toNat).length = n.toNat := by rw [List.length_take]; omega
              obtain ⟨hs', kk⟩ := hs.move (w' := w) (by rw [ho]; simp) hbk hm ⟨some ⟨b, o, none⟩, ty.size, (xs.take n.toNat).length, m.c⟩ (.arr ty (xs.take n.toNat)) rfl rfl (fun _ _ => rfl) (fun k => by
                refine ⟨_, more_same _ _, rfl, rfl, by rw [htl]; show n.toNat ≤ m.c; omega, fun h => (by cases h), fun ad had => ?_⟩
                cases had
                refine ⟨rfl, r2, cs, e, r3, r4, fun i x hx => ?_⟩
                have hx' : xs[i]? = some x := by
                  have hlt := (List.getElem?_eq_some_iff.1 hx).1
                  rw [List.getElem?_take_of_lt (by omega)] at hx
                  exact hx
                obtain ⟨us, g1, g2, g3⟩ := r5 _ x hx'
                exact ⟨us, g1, ty.rep_mono k _ _ g2, g3⟩)
              rw [hma] at hrun
              refine ⟨_, _, hrun, more_ext _ hm, fun q hq => more_other _ (pow8 hq), hs', kk, ⟨_, more_same _ _, ?_⟩, Bel.refl _ _⟩
              rw [htl]
        · cases hr
  · cases hr

theorem foldInts_ok {f : Int → Int → Int} {g : Value → Value → Sem Value} {k : IntKind} (hg : ∀ a b, g (.int k a) (.int k b) = pure (.int k (f a b))) : ∀ {l : List AV} {vs : List Value} {a n : Int}, foldInts f k l a = some n → RVs St w μ l vs → (vs.foldlM g (.int k a)).run P w = .ok (.int k n) w
  | [], vs, a, n, h, hv => by
    cases h
    simp only [RVs] at hv
    subst hv
    rfl
  | c :: l, vs, a, n, h, hv => by
    obtain ⟨u, us, rfl, h1, h2⟩ := hv
    cases c with
    | int j b =>
      have h' : (match kEq k j with | some _ => foldInts f k l (f a b) | none => none) = some n := h
      split at h'
      · rename_i e _
        have e := e.down
        subst e
        simp only [RV] at h1
        subst h1
        rw [List.foldlM_cons, hg]
        simp only [Sem.run_bind, Sem.run_pure, Result.andThen_ok]
        exact foldInts_ok hg h' h2
      · cases h'
    | _ => exact absurd (show (none : Option Int) = some n from h) (by simp)
end
end Go.Proofs.YtaafjaibaaiigaaGreatDoor.Eng
/- Maps with keys that are structs of numbers, made, asked and written. Written for this seat's proofs. -/
set_option linter.unusedVariables false
set_option linter.unusedSimpArgs false
namespace Go.Proofs.YtaafjaibaaiigaaGreatDoor.Eng
open Go Go.RowKit

section
variable {P : Program} {E : Env} {B : Zn} {S0 : Nat → Prop} {μ : Nat → Option Wh} {H H' : Nat → Option Ob} {w w' : World} {St : Nat → Prop}

theorem key_vals : ∀ {t : Ty} {ks : List Nat}, keyOk t ks = true → ∀ (x : t.D) (us : List Value), t.rep St w x us ↔ us = t.vals x
  | .int k, ks, h, x, us => Iff.rfl
  | .bool, ks, h, x, us => by cases h
  | .str, ks, h, x, us => by cases h
  | .sl _, ks, h, x, us => by cases h
  | .one a, ks, h, x, us => key_vals (t := a) h x us
  | .fld a r, ks, h, x, us => by
    cases ks with
    | nil => cases h
    | cons k q =>
      obtain ⟨h1, h2⟩ := andB_true (show andB (keyOk a [k]) (keyOk r q) = true from h)
      constructor
      · rintro ⟨u1, u2, rfl, g1, g2⟩
        rw [(key_vals h1 _ _).1 g1, (key_vals h2 _ _).1 g2]
        rfl
      · rintro rfl
        exact ⟨_, _, rfl, (key_vals h1 _ _).2 rfl, (key_vals h2 _ _).2 rfl⟩
theorem key_len : ∀ {t : Ty} {ks : List Nat}, keyOk t ks = true → ∀ (x : t.D), (t.toCells x).length = ks.length ∧ (t.vals x).length = ks.length
  | .int k, ks, h, x => by
    cases ks with
    | nil => cases h
    | cons a q => cases q with
      | nil => exact ⟨rfl, rfl⟩
      | cons _ _ => cases h
  | .bool, ks, h, x => by cases h
  | .str, ks, h, x => by cases h
  | .sl _, ks, h, x => by cases h
  | .one a, ks, h, x => key_len (t := a) h x
  | .fld a r, ks, h, x => by
    cases ks with
    | nil => cases h
    | cons k q =>
      obtain ⟨h1, h2⟩ := andB_true (show andB (keyOk a [k]) (keyOk r q) = true from h)
      obtain ⟨a1, a2⟩ := key_len h1 (Prod.fst (α := a.D) (β := r.D) x)
      obtain ⟨b1, b2⟩ := key_len h2 (Prod.snd (α := a.D) (β := r.D) x)
      refine ⟨?_, ?_⟩
      · rw [Ty.toCells_fld, List.length_append, a1, b1]
        simp; omega
      · show (a.vals (Prod.fst (α := a.D) (β := r.D) x) ++ r.vals (Prod.snd (α := a.D) (β := r.D) x)).length = _
        rw [List.length_append, a2, b2]
        simp; omega
theorem kEq_self (k : IntKind) : ∃ e, kEq k k = some e := by cases k <;> exact ⟨_, rfl⟩
theorem eqCells_key : ∀ {t : Ty} {ks : List Nat}, keyOk t ks = true → ∀ (x y : t.D) (as bs : List AV) (qs : List Nat),
    eqCells (t.toCells x ++ as) (t.toCells y ++ bs) (ks ++ qs) = (match eqCells as bs qs with | some e => some (t.eqD x y && e) | none => none)
  | .int k, ks, h, x, y, as, bs, qs => by
    cases ks with
    | nil => cases h
    | cons a q => cases q with
      | cons _ _ => cases h
      | nil =>
        have ha : a = 5 := Nat.eq_of_beq_eq_true h
        subst ha
        cases k <;> rfl
  | .bool, ks, h, x, y, as, bs, qs => by cases h
  | .str, ks, h, x, y, as, bs, qs => by cases h
  | .sl _, ks, h, x, y, as, bs, qs => by cases h
  | .one a, ks, h, x, y, as, bs, qs => eqCells_key (t := a) h x y as bs qs
  | .fld a r, ks, h, x, y, as, bs, qs => by
    cases ks with
    | nil => cases h
    | cons k q =>
      obtain ⟨h1, h2⟩ := andB_true (show andB (keyOk a [k]) (keyOk r q) = true from h)
      rw [Ty.toCells_fld, Ty.toCells_fld, List.append_assoc, List.append_assoc, show (k :: q) ++ qs = [k] ++ (q ++ qs) from rfl, eqCells_key h1, eqCells_key h2]
      cases eqCells as bs qs with
      | none => rfl
      | some e =>
        show some _ = some ((a.eqD _ _ && r.eqD _ _) && e)
        rw [Bool.and_assoc]
theorem bare_vals {v : Ty} (h : bareTy v = true) {x : v.D} {us : List Value} (r : v.rep St w x us) : us = v.vals x := by
  cases v <;> first | (cases h; done) | exact r
theorem bare_rv {v : Ty} (h : bareTy v = true) {x : v.D} {u : Value} (e : [u] = v.vals x) : RV St w μ (oneRes v x) u := by
  cases v <;> first | (cases h; done) | (have e' := List.head_eq_of_cons_eq e; exact e')

/-- What is known of a key's type, a struct. -/
structure KeyS (P : Program) (E : Env) (kt : Nat) (k : Ty) : Prop where
  kind : (E.ti kt).kind = 3
  cmp : (E.ti kt).cmp = true
  key : keyOk k (lmap (fun f : Nat × Nat => (E.ti f.2).kind) (E.ti kt).flds) = true
theorem KeyS.fields (hT : TOk P E) {kt : Nat} {k : Ty} (q : KeyS P E kt k) : ∃ fs, P.underlying kt = some (.struct fs) ∧ cmpOf P kt fs = true ∧ keyOk k (fs.toList.map fun f => (E.ti f.type).kind) = true := by
  obtain ⟨fs, f1, f2⟩ := (hT kt (by rw [q.kind]; decide)).cmp q.cmp
  obtain ⟨fs', g1, g2⟩ := (hT kt (by rw [q.kind]; decide)).k3 q.kind
  rw [f1] at g1
  cases g1
  have hk := q.key
  rw [lmap_eq, g2, List.map_map] at hk
  exact ⟨fs, f1, f2, hk⟩
theorem equalS_ok (hT : TOk P E) {kt : Nat} {k : Ty} (q : KeyS P E kt k) (x y : k.D) : (Op.equal kt (.agg (k.vals x).toArray) (.agg (k.vals y).toArray)).run P w = .ok (k.eqD x y) w := by
  obtain ⟨fs, f1, f2, hk⟩ := q.fields hT
  unfold cmpOf at f2
  simp only [Bool.and_eq_true] at f2
  obtain ⟨⟨f3, f4⟩, f5⟩ := f2
  have hst : P.stoodInHeld kt = false := by simpa using f3
  have hfo : P.fieldsOf kt = fs := by simp [Program.fieldsOf, f1]
  have he := eqCells_key hk x y [] [] []
  rw [List.append_nil, List.append_nil, List.append_nil] at he
  have he : eqCells (k.toCells x) (k.toCells y) (fs.toList.map fun f => (E.ti f.type).kind) = some (k.eqD x y && true) := he
  rw [Bool.and_true] at he
  have hx : RVs (fun _ => False) w (fun _ => none) (k.toCells x) (k.vals x) := k.cells_of_rep x _ ((key_vals hk x _).2 rfl)
  have hy : RVs (fun _ => False) w (fun _ => none) (k.toCells y) (k.vals y) := k.cells_of_rep y _ ((key_vals hk y _).2 rfl)
  show (Op.equalIn 10000 kt (.agg (k.vals x).toArray) (.agg (k.vals y).toArray)).run P w = .ok (k.eqD x y) w
  rw [run_equalIn_struct w 9999 kt (k.vals x).toArray (k.vals y).toArray (by rw [hfo]; exact f1) hst, hfo]
  have := eqFields_ok (St := fun _ => False) (μ := fun _ => none) (w := w) hT 9998 fs.toList 0 (k.toCells x) (k.toCells y) (k.eqD x y) (k.vals x) (k.vals y) [] [] f5 rfl rfl (by rw [(key_len hk x).1]; simp) he hx hy
  simpa using this
theorem checkPlain {em : Bool} {n : Nat} {t : TypeId} {a : Value} (h : (match P.underlying t with | some (.int _) | some .bool | some .string => true | _ => false) = true) : (Instr.checkKey em (n + 1) t a).run P w = .ok () w := by
  cases hd : P.underlying t with
  | none => rw [hd] at h; simp at h
  | some d => rw [hd] at h; cases d <;> simp at h <;> simp [Instr.checkKey, run_underlying hd]
theorem checkS_ok (hT : TOk P E) {kt : Nat} {k : Ty} (q : KeyS P E kt k) (em : Bool) (x : k.D) : (Instr.checkKey em 10000 kt (.agg (k.vals x).toArray)).run P w = .ok () w := by
  obtain ⟨fs, f1, f2, hk⟩ := q.fields hT
  unfold cmpOf at f2
  simp only [Bool.and_eq_true] at f2
  obtain ⟨_, f5⟩ := f2
  have hl := (key_len hk x).2
  rw [List.length_map] at hl
  have each : ∀ f ∈ fs.toList, f.name ≠ "_" ∧ ∃ a, (part f.type (k.vals x).toArray f.offset).run P w = .ok a w ∧ (Instr.checkKey em 9999 f.type a).run P w = .ok () w := by
    intro f hf
    obtain ⟨i, hi, e⟩ := List.mem_iff_getElem.1 hf
    have hz := List.all_eq_true.1 f5 (f, i) (by
      rw [List.mem_iff_getElem?]
      exact ⟨i, by rw [List.getElem?_zipIdx, List.getElem?_eq_getElem hi, e]; simp⟩)
    simp only [Bool.and_eq_true] at hz
    obtain ⟨⟨hn, ho⟩, hty⟩ := hz
    have ho' : f.offset = i := by simpa using ho
    refine ⟨by simpa using hn, (k.vals x)[i]'(by omega), ?_, checkPlain hty⟩
    have hag : (isAgg f.type).run P w = .ok false w := by
      cases hd : P.underlying f.type with
      | none => rw [hd] at hty; simp at hty
      | some d => rw [hd] at hty; cases d <;> simp at hty <;> simp [isAgg, run_underlying hd]
    have : (k.vals x).toArray[i]? = some ((k.vals x)[i]'(by omega)) := by simp
    rw [ho']
    simp only [part, Sem.run_bind, hag, Result.andThen_ok, Bool.false_eq_true, if_false, this, Sem.run_pure]
  rw [show (10000 : Nat) = 9999 + 1 from rfl, Instr.checkKey]
  simp only [Sem.run_bind, run_underlying f1, Result.andThen_ok]
  rw [← Array.forIn_toList]
  generalize fs.toList = L at each
  induction L with
  | nil => simp
  | cons f L ih =>
    obtain ⟨hn, a, p1, p2⟩ := each f (by simp)
    simp only [List.forIn_cons, Sem.run_bind, hn, ne_eq, not_false_eq_true, if_true, Result.andThen_ok, p1, p2, Sem.run_pure]
    exact ih (fun y hy => each y (by simp [hy]))
theorem keyV_key {k : Ty} {ks : List Nat} (h : keyOk k ks = true) (x : k.D) : k.keyV x = .agg (k.vals x).toArray := by
  cases k <;> first | rfl | cases h
/-- What is known of a key's type: a struct of numbers, or a text. -/
inductive KeyT (P : Program) (E : Env) (kt : Nat) : Ty → Prop where
  | st {k : Ty} (q : KeyS P E kt k) : KeyT P E kt k
  | str (h : (E.ti kt).kind = 4) : KeyT P E kt .str
theorem equal_ok (hT : TOk P E) {kt : Nat} {k : Ty} (q : KeyT P E kt k) (x y : k.D) : (Op.equal kt (k.keyV x) (k.keyV y)).run P w = .ok (k.eqD x y) w := by
  cases q with
  | st q => rw [keyV_key q.key, keyV_key q.key]; exact equalS_ok hT q x y
  | str h => exact run_equalIn_string w 9999 kt x y ((hT kt (by rw [h]; decide)).k4 h)
theorem check_ok (hT : TOk P E) {kt : Nat} {k : Ty} (q : KeyT P E kt k) (em : Bool) (x : k.D) : (Instr.checkKey em 10000 kt (k.keyV x)).run P w = .ok () w := by
  cases q with
  | st q => rw [keyV_key q.key]; exact checkS_ok hT q em x
  | str h => exact checkPlain (by rw [(hT kt (by rw [h]; decide)).k4 h])
theorem find_ok (hT : TOk P E) {kt : Nat} {k v : Ty} (q : KeyT P E kt k) (a : k.D) : ∀ (es : List (k.D × v.D)) (ents : List MapEntry) (i : Nat),
    ents.map (fun e => (e.key, [e.val])) = es.map (fun p => (k.keyV p.1, v.vals p.2)) →
    (mget k v es a = none ∧ (Instr.findAsking kt (k.keyV a) ents i).run P w = .ok none w) ∨
    (∃ b j u, mget k v es a = some b ∧ [u] = v.vals b ∧ (Instr.findAsking kt (k.keyV a) ents i).run P w = .ok (some (j, u)) w)
  | [], [], i, h => Or.inl ⟨rfl, rfl⟩
  | [], _ :: _, i, h => by simp at h
  | _ :: _, [], i, h => by simp at h
  | p :: es, e :: ents, i, h => by
    simp only [List.map_cons, List.cons.injEq, Prod.mk.injEq] at h
    obtain ⟨⟨h1, h2⟩, h3⟩ := h
    have he := equal_ok (w := w) hT q a p.1
    rw [← h1] at he
    cases hq : k.eqD a p.1 with
    | true =>
      refine Or.inr ⟨p.2, i, e.val, ?_, h2, ?_⟩
      · show (match k.eqD a p.1 with | true => some p.2 | false => mget k v es a) = _
        rw [hq]
      · rw [hq] at he
        simp [Instr.findAsking, he]
    | false =>
      have hm : mget k v (p :: es) a = mget k v es a := by
        show (match k.eqD a p.1 with | true => some p.2 | false => mget k v es a) = _
        rw [hq]
      rw [hq] at he
      rcases find_ok hT q a es ents (i + 1) h3 with ⟨g1, g2⟩ | ⟨b, j, u, g1, g2, g3⟩
      · exact Or.inl ⟨by rw [hm, g1], by simp [Instr.findAsking, he, g2]⟩
      · exact Or.inr ⟨b, j, u, by rw [hm, g1], g2, by simp [Instr.findAsking, he, g3]⟩
theorem sameNow_str (a b : ByteArray) : Instr.sameNow .string (.string a) (.string b) = some (a.toList == b.toList) := by
  show some (a == b) = _
  rw [beq_toListBytes]
theorem find_now {v : Ty} (a : Ty.D .str) : ∀ (es : List (Ty.D .str × v.D)) (ents : List MapEntry) (i : Nat),
    ents.map (fun e => (e.key, [e.val])) = es.map (fun p => (Ty.keyV .str p.1, v.vals p.2)) →
    (mget .str v es a = none ∧ Instr.findNow .string (.string a) ents i = some none) ∨
    (∃ b j u, mget .str v es a = some b ∧ [u] = v.vals b ∧ Instr.findNow .string (.string a) ents i = some (some (j, u)))
  | [], [], i, h => Or.inl ⟨rfl, rfl⟩
  | [], _ :: _, i, h => by simp at h
  | _ :: _, [], i, h => by simp at h
  | p :: es, e :: ents, i, h => by
    simp only [List.map_cons, List.cons.injEq, Prod.mk.injEq] at h
    obtain ⟨⟨h1, h2⟩, h3⟩ := h
    have hm : mget .str v (p :: es) a = (match (ByteArray.toList a == ByteArray.toList p.1) with | true => some p.2 | false => mget .str v es a) := rfl
    have hn : Instr.findNow .string (.string a) (e :: ents) i = (match Instr.sameNow .string (.string a) e.key with | some true => some (some (i, e.val)) | some false => Instr.findNow .string (.string a) ents (i + 1) | none => none) := rfl
    have hs : Instr.sameNow .string (.string a) e.key = some (ByteArray.toList a == ByteArray.toList p.1) := by
      rw [h1]
      exact sameNow_str a p.1
    rw [hm, hn, hs]
    cases hq : (ByteArray.toList a == ByteArray.toList p.1) with
    | true => exact Or.inr ⟨p.2, i, e.val, rfl, h2, rfl⟩
    | false => exact find_now a es ents (i + 1) h3
theorem findKey_ok (hT : TOk P E) {kt : Nat} {k v : Ty} (q : KeyT P E kt k) (a : k.D) (es : List (k.D × v.D)) (ents : List MapEntry)
    (h : ents.map (fun e => (e.key, [e.val])) = es.map (fun p => (k.keyV p.1, v.vals p.2))) :
    (mget k v es a = none ∧ (Instr.findKey kt (k.keyV a) ents).run P w = .ok none w) ∨
    (∃ b j u, mget k v es a = some b ∧ [u] = v.vals b ∧ (Instr.findKey kt (k.keyV a) ents).run P w = .ok (some (j, u)) w) := by
  cases q with
  | st q =>
    obtain ⟨fs, f1, f2, hk⟩ := q.fields hT
    rw [run_findKey_eq w (by simp [f1])]
    exact find_ok hT (.st q) a es ents 0 h
  | str hk =>
    have hu := (hT kt (by rw [hk]; decide)).k4 hk
    rcases find_now (v := v) a es ents 0 h with ⟨g1, g2⟩ | ⟨b, j, u, g1, g2, g3⟩
    · exact Or.inl ⟨g1, MapKept.run_findKey hu g2⟩
    · exact Or.inr ⟨b, j, u, g1, g2, MapKept.run_findKey hu g3⟩
theorem mapOk_true {t : Nat} {k v : Ty} (h : mapOk E t k v = true) : (E.ti t).kind = 6 ∧ KeyT P E (E.ti t).len k ∧ plainKind (E.ti (E.ti t).elem).kind = true ∧ (E.ti (E.ti t).elem).z1 = true ∧ bareTy v = true := by
  obtain ⟨h1, h⟩ := andB_true h
  obtain ⟨hk, h⟩ := andB_true h
  obtain ⟨h5, h⟩ := andB_true h
  obtain ⟨h6, h7⟩ := andB_true h
  refine ⟨Nat.eq_of_beq_eq_true h1, ?_, h5, h6, h7⟩
  have hk' : orB (andB (isStr k) (Nat.beq (E.ti (E.ti t).len).kind 4)) _ = true := hk
  rcases orB_true hk' with hk | hk
  · obtain ⟨h2, h3⟩ := andB_true hk
    cases k <;> first | (cases h2; done) | exact .str (Nat.eq_of_beq_eq_true h3)
  · obtain ⟨h2, h⟩ := andB_true hk
    obtain ⟨h3, h4⟩ := andB_true h
    exact .st ⟨Nat.eq_of_beq_eq_true h2, h3, h4⟩
theorem plainKind_ne {n : Nat} (h : plainKind n = true) : n ≠ 0 := by rintro rfl; cases h

theorem makeMap_ok (hs : HS B S0 μ H w) {t base : Nat} (hm : μ base = none) {r : Res} (hr : (makeMapR E t base).run H = some r) :
    ∃ u w' μ', (Instr.makeMap t none).run P w = .ok u w' ∧ Done B S0 μ H w base (upds H r.ups) r.val u μ' w' := by
  unfold makeMapR at hr
  split at hr
  · rename_i k v hk hv
    split at hr
    · cases hr
      obtain ⟨hs', kk⟩ := hs.alloc hm ⟨some ⟨w.heap.size, 0, none⟩, 1, 1, 1⟩ (.map #[] 0) (.mp k v []) rfl fun kk =>
        ⟨w.heap.size, #[], 0, more_same _ _, hs.bsz.new, heap_alloc_new w _, rfl⟩
      exact ⟨_, _, _, run_makeMap_plain w t, more_ext _ hm, fun q hq => more_other _ (pow8 hq), hs', kk, ⟨_, w.heap.size, more_same _ _, rfl, rfl⟩, (Bel.refl _ _).alloc hs.bsz _⟩
    · cases hr
  · cases hr
/-- A key, read. -/
theorem keyArgS {k : Ty} {ks : List Nat} (hk : keyOk k ks = true) {x : List AV} {a : k.D} {u : Value} (h : k.ofCells x = some (a, [])) (hv : RV St w μ (.agg x) u) : u = .agg (k.vals a).toArray := by
  obtain ⟨vs, rfl, hvs⟩ := hv
  obtain ⟨us, ws, rfl, h1, h2⟩ := k.rep_of_cells x a [] vs h hvs
  simp only [RVs] at h2
  subst h2
  rw [List.append_nil, (key_vals hk a us).1 h1]
theorem eqB_true {a b : Bool} (h : eqB a b = true) : a = b := by cases a <;> cases b <;> first | rfl | cases h
/-- What a key's cells are. -/
def KeyIs (E : Env) (st : Bool) (cs : List AV) (u : Value) : Prop := ∀ {P : Program} {kt : Nat} {k : Ty} {a : k.D}, KeyT P E kt k → isStr k = st → k.ofCells cs = some (a, []) → u = k.keyV a
theorem keyIs_agg {cs : List AV} {u : Value} (hv : RV St w μ (.agg cs) u) : KeyIs E false cs u := by
  intro P kt k a q hs h
  cases q with
  | st q => rw [keyV_key q.key]; exact keyArgS q.key h hv
  | str _ => cases hs
theorem keyIs_str {s : ByteArray} {u : Value} (hv : RV St w μ (.str s) u) : KeyIs E true [.str s] u := by
  intro P kt k a q hs h
  cases q with
  | st q =>
    have := q.key
    cases k <;> first | (cases hs; done) | (cases this; done)
  | str _ =>
    have h' : some (s, ([] : List AV)) = some (a, []) := h
    cases h'
    exact hv
theorem bareArg {v : Ty} (hb : bareTy v = true) {y : AV} {b : v.D} {u : Value} (h : v.ofCells [y] = some (b, [])) (hv : RV St w μ y u) : [u] = v.vals b := by
  obtain ⟨us, ws, e, h1, h2⟩ := v.rep_of_cells [y] b [] [u] h ⟨u, [], rfl, hv, rfl⟩
  simp only [RVs] at h2
  subst h2
  rw [List.append_nil] at e
  rw [e]
  exact bare_vals hb h1
theorem zeroArg (hT : TOk P E) {t : Nat} {v : Ty} (hb : bareTy v = true) (hk : (E.ti t).kind ≠ 0) (hz1 : (E.ti t).z1 = true) {z : v.D} (h : v.ofCells (E.ti t).zero = some (z, [])) : ∃ u, (zeroValue t).run P w = .ok u w ∧ [u] = v.vals z := by
  obtain ⟨f, zv, h1, h2, h3⟩ := (hT t hk).z1 hz1
  obtain ⟨f', g1, _, _, g4⟩ := (hT t hk).info
  rw [h1] at g1
  cases g1
  rw [h2] at g4
  have g4 : (E.ti t).zero = zv.cells.toList.map ofCell := g4
  have hc : zv.cells.toList = [zv] := by cases zv <;> first | rfl | exact absurd rfl (h3 _)
  refine ⟨zv, by simp only [zeroValue, typeInfo, Sem.run_bind, run_program, Result.andThen_ok, h1, h2, Sem.run_pure], ?_⟩
  rw [g4, hc] at h
  have hrv : RV (fun _ => False) w (fun _ => none) (ofCell zv) zv := RV_ofCell zv
  exact bareArg hb h hrv
theorem lookAt_ok (hT : TOk P E) (hs : HS B S0 μ H w) {t : Nat} {c st : Bool} {h : Nat} {cs : List AV} {vm vx : Value} {r : Res} (h1 : RV (Stb B S0 μ H w) w μ (.mp h) vm) (h2 : KeyIs E st cs vx) (hr : (lookAt E t c st cs (H h)).run H = some r) :
    Quiet P w (Stb B S0 μ H w) μ (Instr.lookup t vm vx c) r := by
  obtain ⟨m', b, hm, ha, rfl⟩ := h1
  cases ho : H h with
  | none => rw [ho] at hr; cases hr
  | some o =>
    rw [ho] at hr
    cases o with
    | box _ => cases hr
    | arr _ _ => cases hr
    | tab _ _ _ _ => cases hr
    | tbx _ _ => cases hr
    | trow _ _ => cases hr
    | mp k v es =>
      obtain ⟨b', ents, ck, g1, g2, g3, g4⟩ := hs.obj h _ ho
      rw [hm] at g1
      cases g1
      cases ha
      unfold lookAt at hr
      simp only at hr
      split at hr
      · rename_i a z hok hka hz
        obtain ⟨hsb, hok⟩ := andB_true hok
        obtain ⟨k1, k2, k3, k4, k5⟩ := mapOk_true (P := P) hok
        have hu := (hT t (by rw [k1]; decide)).k6 k1
        have hvx := h2 k2 (eqB_true hsb) hka
        subst hvx
        have hck := check_ok (w := w) hT k2 ents.isEmpty a
        obtain ⟨zu, z1, z2⟩ := zeroArg (w := w) hT k5 (plainKind_ne k3) k4 hz
        have hobj : (getObj b).run P w = .ok (.map ents ck) w := by simp [getObj, Sem.run, g3]
        have fin : ∀ (u : Value) (o : Option v.D), [u] = v.vals (optOr o z) → mget k v es a = o → (Instr.lookup t (.map (some b)) (k.keyV a) c).run P w = .ok (if c then .tuple #[u, .bool (isOk o)] else u) w → Quiet P w (Stb B S0 μ H w) μ (Instr.lookup t (.map (some b)) (k.keyV a) c) r := by
          intro u o hu1 ho1 hrun
          rw [ho1] at hr
          cases c
          · cases hr
            exact ⟨_, hrun, rfl, bare_rv k5 hu1⟩
          · cases hr
            exact ⟨_, hrun, rfl, ⟨[u, .bool (isOk o)], rfl, u, _, rfl, bare_rv k5 hu1, _, _, rfl, rfl, rfl⟩⟩
        rcases findKey_ok (w := w) hT k2 a es ents.toList g4 with ⟨q1, q2⟩ | ⟨b2, j, u, q1, q2, q3⟩
        · refine fin zu none z2 q1 ?_
          simp only [Instr.lookup, Sem.run_bind, run_underlying hu, Result.andThen_ok, hobj, Sem.run_pure, hck, q2, z1]
          rfl
        · refine fin u (some b2) q2 q1 ?_
          simp only [Instr.lookup, Sem.run_bind, run_underlying hu, Result.andThen_ok, hobj, Sem.run_pure, hck, q3]
          rfl
      · cases hr
theorem lookup_ok (hT : TOk P E) (hs : HS B S0 μ H w) {t : Nat} {c : Bool} {m x : AV} {vm vx : Value} {r : Res} (h1 : RV (Stb B S0 μ H w) w μ m vm) (h2 : RV (Stb B S0 μ H w) w μ x vx) (hr : (lookR E t c m x).run H = some r) :
    Quiet P w (Stb B S0 μ H w) μ (Instr.lookup t vm vx c) r := by
  unfold lookR at hr
  split at hr
  · exact lookAt_ok hT hs h1 (keyIs_agg h2) hr
  · exact lookAt_ok hT hs h1 (keyIs_str h2) hr
  · cases hr
theorem putAt_ok (hT : TOk P E) (hs : HS B S0 μ H w) (base : Nat) {t : Nat} {st : Bool} {h : Nat} {cs : List AV} {y : AV} {vm vx vy : Value} {r : Res} (h1 : RV (Stb B S0 μ H w) w μ (.mp h) vm) (h2 : KeyIs E st cs vx) (h3 : RV (Stb B S0 μ H w) w μ y vy) (hr : (putAt E t h st cs y (H h)).run H = some r) (hp : ∀ p ∈ r.ps, p) :
    ∃ w', (Instr.mapUpdate t vm vx vy).run P w = .ok () w' ∧ Done B S0 μ H w base (upds H r.ups) r.val undef μ w' := by
  obtain ⟨m', b, hm, ha, rfl⟩ := h1
  cases ho : H h with
  | none => rw [ho] at hr; cases hr
  | some o =>
    rw [ho] at hr
    cases o with
    | box _ => cases hr
    | arr _ _ => cases hr
    | tab _ _ _ _ => cases hr
    | tbx _ _ => cases hr
    | trow _ _ => cases hr
    | mp k v es =>
      obtain ⟨b', ents, ck, g1, g2, g3, g4⟩ := hs.obj h _ ho
      rw [hm] at g1
      cases g1
      cases ha
      unfold putAt at hr
      simp only at hr
      split at hr
      · rename_i a d hok hka hd
        obtain ⟨hsb, hok⟩ := andB_true hok
        obtain ⟨k1, k2, k3, k4, k5⟩ := mapOk_true (P := P) hok
        have hu := (hT t (by rw [k1]; decide)).k6 k1
        have hvx := h2 k2 (eqB_true hsb) hka
        subst hvx
        have hvy := bareArg k5 hd h3
        have hck := check_ok (w := w) hT k2 false a
        have hobj : (getObj b).run P w = .ok (.map ents ck) w := by simp [getObj, Sem.run, g3]
        cases hr
        have hnew : isOk (mget k v es a) = false := hp _ List.mem_cons_self
        rcases findKey_ok (w := w) hT k2 a es ents.toList g4 with ⟨q1, q2⟩ | ⟨b2, j, u, q1, q2, q3⟩
        · have hb : blk μ h = some b := by simp [blk, hm]
          have hlt : b < w.heap.size := (Array.getElem?_eq_some_iff.1 g3).1
          obtain ⟨hs', kk⟩ := hs.write (w' := { w with heap := w.heap.setIfInBounds b (.map (ents.push { key := k.keyV a, val := vy, born := ck }) (ck + 1)) }) (by rw [ho]; simp) hb (.mp k v (es ++ [(a, d)])) (by simp) (fun q hq => by simp [Array.getElem?_setIfInBounds, Ne.symm hq])
            (fun _ => ⟨b, _, _, hm, g2, by simp [Array.getElem?_setIfInBounds, hlt]; exact ⟨rfl, rfl⟩, by rw [Array.toList_push, List.map_append, g4, List.map_append]; simp only [List.map_cons, List.map_nil, hvy]⟩)
          refine ⟨_, ?_, ⟨fun _ _ h => h, fun _ _ => rfl, hs', kk, trivial, ⟨⟨rfl, rfl, rfl, by simp, fun q hq => by have hbn := B.le b g2; simp [Array.getElem?_setIfInBounds]; omega⟩, Nat.le_refl _, fun q _ hz => by
            show (w.heap.setIfInBounds b _)[q]? = _
            exact Array.getElem?_setIfInBounds_ne (fun e => hz (by rw [← e]; exact g2))⟩⟩⟩
          simp only [Instr.mapUpdate, Sem.run_bind, run_underlying hu, Result.andThen_ok, hobj, hck, q2]
          simp [setObj, Sem.run, g3]
        · rw [q1] at hnew
          cases hnew
      · cases hr
theorem put_ok (hT : TOk P E) (hs : HS B S0 μ H w) (base : Nat) {t : Nat} {m x y : AV} {vm vx vy : Value} {r : Res} (h1 : RV (Stb B S0 μ H w) w μ m vm) (h2 : RV (Stb B S0 μ H w) w μ x vx) (h3 : RV (Stb B S0 μ H w) w μ y vy) (hr : (putR E t m x y).run H = some r) (hp : ∀ p ∈ r.ps, p) :
    ∃ w', (Instr.mapUpdate t vm vx vy).run P w = .ok () w' ∧ Done B S0 μ H w base (upds H r.ups) r.val undef μ w' := by
  unfold putR at hr
  split at hr
  · exact putAt_ok hT hs base h1 (keyIs_agg h2) h3 hr hp
  · exact putAt_ok hT hs base h1 (keyIs_str h2) h3 hr hp
  · cases hr
end
end Go.Proofs.YtaafjaibaaiigaaGreatDoor.Eng
/- An operation of a region, against the model. Written for this seat's proofs. -/
set_option linter.unusedVariables false
set_option linter.unusedSimpArgs false
namespace Go.Proofs.YtaafjaibaaiigaaGreatDoor.Eng
open Go Go.RowKit

section
variable {P : Program} {E : Env} {B : Zn} {S0 : Nat → Prop} {μ : Nat → Option Wh} {H H' : Nat → Option Ob} {w w' : World} {St : Nat → Prop}

theorem wp_value' {o : Oper} {a : Act} {next : Act → World → Prop} {Q : Exit → Act → World → Prop} {v : Value} (h : (execOp a.eval o).run P w = .ok (.value v) w') (hn : next (a.put o.dst v) w') : o.wp P a w next Q := by
  unfold Oper.wp
  rw [h]
  exact hn
theorem wp_skip' {o : Oper} {a : Act} {next : Act → World → Prop} {Q : Exit → Act → World → Prop} (h : (execOp a.eval o).run P w = .ok .skip w') (hn : next (a.put o.dst undef) w') : o.wp P a w next Q := by
  unfold Oper.wp
  rw [h]
  exact hn
theorem run_v {s : Sem Value} {u : Value} (h : s.run P w = .ok u w') : (do pure (.value (← s)) : Sem Next).run P w = .ok (.value u) w' := by
  simp only [Sem.run_bind, h, Result.andThen_ok, Sem.run_pure]
theorem run_u {s : Sem Unit} (h : s.run P w = .ok () w') : (do s; pure .skip : Sem Next).run P w = .ok .skip w' := by
  simp only [Sem.run_bind, h, Result.andThen_ok, Sem.run_pure]

theorem RVs1 {St : Nat → Prop} {c : AV} {v : Value} (h : RVs St w μ [c] [v]) : RV St w μ c v := by
  obtain ⟨u, us, e, h1, _⟩ := h
  cases e
  exact h1
theorem RVs2 {St : Nat → Prop} {c d : AV} {v u : Value} (h : RVs St w μ [c, d] [v, u]) : RV St w μ c v ∧ RV St w μ d u := by
  obtain ⟨x, us, e, h1, h2⟩ := h
  cases e
  exact ⟨h1, RVs1 h2⟩
theorem RVs3 {St : Nat → Prop} {c d e : AV} {v u x : Value} (h : RVs St w μ [c, d, e] [v, u, x]) : RV St w μ c v ∧ RV St w μ d u ∧ RV St w μ e x := by
  obtain ⟨y, us, q, h1, h2⟩ := h
  cases q
  exact ⟨h1, RVs2 h2⟩
theorem RVs_shape {St : Nat → Prop} {cs : List AV} {vs : List Value} (h : RVs St w μ cs vs) : cs.length = vs.length := h.len.symm
theorem two_of {α : Type} {l : List α} (h : l.length = 2) : ∃ a b, l = [a, b] := by
  match l, h with
  | [a, b], _ => exact ⟨a, b, rfl⟩
theorem one_of {α : Type} {l : List α} (h : l.length = 1) : ∃ a, l = [a] := by
  match l, h with
  | [a], _ => exact ⟨a, rfl⟩

/-- The pairs of a literal's parts. -/
theorem parts_zip (ps : Array (Nat × Operand)) (ρ : Operand → Value) : (ps.map fun (i, x) => (i, ρ x)) = ((ps.toList.map Prod.fst).zip (ps.toList.map fun p => ρ p.2)).toArray := by
  apply Array.ext'
  simp only [Array.toList_map, List.toList_toArray]
  rw [List.zip_map, List.zip_eq_zipWith, List.zipWith_self, List.map_map]
  rfl

theorem convB_run {s d e : Nat} {xs : List Int} {news : List Value} {ad : Option Addr} {c : Nat} (hu : P.underlying s = some (.slice e)) (he : P.underlying e = some (.int .u8)) (hd : P.underlying d = some .string)
    (hcell : ∀ (i : Nat) (x : Int), xs[i]? = some x → news[i]? = some (Value.int .u8 x)) (n2 : ∀ p u, news[p]? = some u → ∃ b o, ad = some ⟨b, o, none⟩ ∧ w.cell? ⟨b, o + p, none⟩ = some u) :
    (convert s d (.slice ad xs.length c)).run P w = .ok (.string (strOfNums xs)) w := by
  cases xs with
  | nil =>
    refine (run_convert_bytes_string w s d _ ad 0 c hu he hd).trans ?_
    show _ = Result.ok (Value.string ByteArray.empty) w
    cases ad
    · simp [Conv.bytesToString, loadCells]
    · simp [Conv.bytesToString, loadCells]
      rfl
  | cons x xs =>
    obtain ⟨b, o, rfl, _⟩ := n2 0 _ (hcell 0 x rfl)
    refine run_convert_bytes_arg w s _ hu he b o _ c (x :: xs) rfl (fun i hi => ?_) d hd
    have hgi : (x :: xs)[i]? = some ((x :: xs).getD i 0) := by
      rw [List.getD_eq_getElem?_getD, List.getElem?_eq_getElem hi]
      rfl
    obtain ⟨b', o', e, hb⟩ := n2 i _ (hcell i _ hgi)
    cases e
    exact hb
theorem convB_ok (hT : TOk P E) (hs : HS B S0 μ H w) {s d : Nat} {a : AV} {va : Value} {r : Res} (hk : (E.ti s).kind = 1) (ha : RV (Stb B S0 μ H w) w μ a va) (hr : (convBR E s d a).run H = some r) (hp : ∀ p ∈ r.ps, p) : Quiet P w (Stb B S0 μ H w) μ (convert s d va) r := by
  unfold convBR at hr
  split at hr
  · rename_i q h1 h2 h3
    obtain ⟨xs, hx, hr⟩ := bind_ok hr
    have hu := (hT s (by rw [hk]; decide)).k1 hk
    have hd' := Nat.eq_of_beq_eq_true h1
    have hd := (hT d (by rw [hd']; decide)).k4 hd'
    have he' := Nat.eq_of_beq_eq_true h2
    have he := (hT (E.ti s).elem (by rw [he']; decide)).k5 he'
    rw [q.down] at he
    obtain ⟨ad, c, rfl, hc, news, n1, n2, n3, n4⟩ := (items_ok hs ha hx).it
    refine ok_of hr (fun _ => ?_) rfl hp
    refine convB_run (xs := xs) hu he hd (fun i x hi => ?_) n2
    obtain ⟨us, g1, g2, g3⟩ := n4 i x hi
    have g2 : us = [Value.int .u8 x] := g2
    subst g2
    have := g3 0 _ rfl
    rwa [show i * Ty.size (.int .u8) + 0 = i from by show i * 1 + 0 = i; omega] at this
  · cases hr
theorem op_ok (hT : TOk P E) (hK : ∀ f k, findK E.K f = some k → CtrOk P f k) (hs : HS B S0 μ H w) {base : Nat} (hm : ∀ q, base ≤ q → q < base + 8 → μ q = none) {o : Oper} {op : Op} (ho : o.op = op) {a : Act} {args : List AV} {r : Res}
    (hv : RVs (Stb B S0 μ H w) w μ args (op.operands.toList.map a.eval)) (hr : (opR E op args base).run H = some r) (hp : ∀ p ∈ r.ps, p) {next : Act → World → Prop} {Q : Exit → Act → World → Prop}
    (hn : ∀ v w' μ', Done B S0 μ H w base (upds H r.ups) r.val v μ' w' → next (a.put o.dst v) w') : o.wp P a w next Q := by
  have hm0 : μ base = none := hm base (Nat.le_refl _) (by omega)
  have quiet : ∀ {s : Sem Value}, execOp a.eval o = (do pure (.value (← s))) → Quiet P w (Stb B S0 μ H w) μ s r → o.wp P a w next Q := by
    rintro s he ⟨u, h1, h2, h3⟩
    refine wp_value' (w' := w) (by rw [he]; exact run_v h1) (hn u w μ ?_)
    rw [h2]
    exact Done.quiet hs h3
  have done : ∀ {s : Sem Value} {v : Value} {w' : World} {μ' : Nat → Option Wh}, execOp a.eval o = (do pure (.value (← s))) → s.run P w = .ok v w' → Done B S0 μ H w base (upds H r.ups) r.val v μ' w' → o.wp P a w next Q :=
    fun he h1 h2 => wp_value' (by rw [he]; exact run_v h1) (hn _ _ _ h2)
  have same : ∀ {ps : List Prop} {c : AV} {u : Value}, r = ⟨ps, c, []⟩ → execOp a.eval o = pure (.value u) → RV (Stb B S0 μ H w) w μ c u → o.wp P a w next Q := by
    rintro ps c u rfl he h
    exact wp_value' (w' := w) (by rw [he]; rfl) (hn u w μ (Done.quiet hs h))
  unfold opR at hr
  split at hr
  -- move, assign
  · rename_i x v
    cases hr
    exact same rfl (by simp only [execOp, ho]) (RVs1 hv)
  · rename_i x v
    cases hr
    exact same rfl (by simp only [execOp, ho]) (RVs1 hv)
  -- pick
  · rename_i x y z c p q
    obtain ⟨h1, h2, h3⟩ := RVs3 hv
    simp only [RV] at h1
    have he : (execOp a.eval o).run P w = .ok (.value (if c = true then a.eval y else a.eval z)) w := by
      simp only [execOp, ho, h1, asBool]
      cases c <;> rfl
    split at hr
    · cases hr
      refine wp_value' he (hn _ w μ (Done.quiet hs ?_))
      cases c
      · exact h3
      · exact h2
    · split at hr
      · cases hr
        exact wp_value' he (hn _ w μ (Done.quiet hs h2))
      · cases hr
        exact wp_value' he (hn _ w μ (Done.quiet hs h3))
  -- alloc
  · rename_i e
    split at hr
    · cases hr
    · cases hr
    · rename_i z zs hk hz
      split at hr
      · cases hr
        obtain ⟨v, w', μ', h1, h2⟩ := alloc_ok hT hs hm0 (fun e => hz e) hk
        exact done (by simp only [execOp, ho]) h1 h2
      · unfold allocTR at hr
        split at hr
        · split at hr
          · cases hr
            obtain ⟨v, w', μ', h1, h2⟩ := allocT_ok hT hs hm0 (fun e => hz e) hk
            exact done (by simp only [execOp, ho]) h1 h2
          · cases hr
        · cases hr
  -- box
  · rename_i e x v
    split at hr
    · rename_i hc
      cases hr
      rw [lall_eq] at hc
      obtain ⟨u, w', μ', h1, h2⟩ := box_ok (e := e) hs hm0 (RVs1 hv) hc
      exact done (by simp only [execOp, ho]) h1 h2
    · cases hr
  -- build, buildSlice
  · rename_i t ps
    rw [lmap_eq] at hr
    have hv' : RVs (Stb B S0 μ H w) w μ args (ps.toList.map fun p => a.eval p.2) := by
      simpa [Op.operands, List.map_map, Function.comp_def] using hv
    have hq := build_ok hT (ns := ps.toList.map Prod.fst) (by simp) hv' hr
    rw [← parts_zip] at hq
    exact quiet (by simp only [execOp, ho]) hq
  · rename_i t ps
    have hv' : RVs (Stb B S0 μ H w) w μ [] (ps.toList.map fun p => a.eval p.2) := by
      simpa [Op.operands, List.map_map, Function.comp_def] using hv
    simp only [RVs] at hv'
    have hps : ps = #[] := by
      have := List.map_eq_nil_iff.1 hv'
      simpa using this
    subst hps
    obtain ⟨u, w', μ', h1, _, h2⟩ := empty_ok hT hs hm0 hr
    exact done (s := Instr.buildSlice t 0 #[]) (by simp only [execOp, ho, List.map_toArray, List.map_nil]) h1 h2
  · rename_i t len ps hne
    rw [lmap_eq] at hr
    have hv' : RVs (Stb B S0 μ H w) w μ args (ps.toList.map fun p => a.eval p.2) := by
      simpa [Op.operands, List.map_map, Function.comp_def] using hv
    obtain ⟨u, w', μ', h1, _, h2⟩ := buildSlice_ok hT hs hm0 (ns := ps.toList.map Prod.fst) (by simp) hv' hr
    rw [← parts_zip] at h1
    exact done (by simp only [execOp, ho]) h1 h2
  -- load, store
  · rename_i t x v
    obtain ⟨u, h1, _, h2, h3⟩ := load_ok hT hs (RVs1 hv) hr
    exact quiet (by simp only [execOp, ho]) ⟨u, h1, h2, h3⟩
  · rename_i t x y p v
    obtain ⟨h1, h2⟩ := RVs2 hv
    obtain ⟨w', g1, g2⟩ := store_ok hT hs base h1 h2 hr hp
    exact wp_skip' (by simp only [execOp, ho]; exact run_u g1) (hn _ _ _ g2)
  -- nilCheck
  · rename_i x h i c
    cases hr
    have h1 := RVs1 hv
    obtain ⟨m, b, q, g1, g2, g3, g4⟩ := h1
    refine wp_value' (w' := w) (v := a.eval x) ?_ (hn _ w μ (Done.quiet hs ⟨m, b, q, g1, g2, g3, g4⟩))
    simp only [execOp, ho, g4]
    rfl
  · rename_i x f cs
    cases hr
    have h1 := RVs1 hv
    obtain ⟨vs, g1, g2⟩ := h1
    refine wp_value' (w' := w) (v := a.eval x) ?_ (hn _ w μ (Done.quiet hs ⟨vs, g1, g2⟩))
    simp only [execOp, ho, g1]
    rfl
  -- sums and so on
  · rename_i op t x y yt p q
    obtain ⟨h1, h2⟩ := RVs2 hv
    exact quiet (s := do eqGuard op t x y (a.eval x) (a.eval y); binOp op t (a.eval x) (a.eval y)) (by simp only [execOp, ho]) (bin_ok hT h1 h2 hr hp)
  · rename_i op t x p
    exact quiet (by simp only [execOp, ho]) (un_ok (RVs1 hv) hr hp)
  · rename_i s d x p
    split at hr
    · rename_i hk
      exact quiet (by simp only [execOp, ho]) (convB_ok hT hs hk (RVs1 hv) hr hp)
    · exact quiet (by simp only [execOp, ho]) (conv_ok hT (RVs1 hv) hr hp)
  -- makeFunc
  · rename_i f first cap
    split at hr
    · rename_i hf
      cases hr
      have h0 : first = #[] := Array.size_eq_zero_iff.1 (Nat.eq_of_beq_eq_true hf)
      subst h0
      have hv' : RVs (Stb B S0 μ H w) w μ args (cap.toList.map a.eval) := by simpa [Op.operands] using hv
      refine done (s := Instr.makeFunc (.func f) (#[].map a.eval) (cap.map a.eval)) (by simp only [execOp, ho]) rfl (Done.quiet hs ⟨cap.toList.map a.eval, ?_, hv'⟩)
      simp
      apply Array.ext'
      simp
    · cases hr
  -- makeSlice
  · rename_i t x y l c
    obtain ⟨h1, h2⟩ := RVs2 hv
    split at hr
    · obtain ⟨u, w', μ', g1, g2⟩ := make_ok hT hs hm0 h1 h2 hr hp
      exact done (by simp only [execOp, ho]) g1 g2
    · obtain ⟨u, w', μ', g1, g2⟩ := makeTab_ok hT hs hm0 h1 h2 hr hp
      exact done (by simp only [execOp, ho]) g1 g2
  -- slices
  · cases hr
  · rename_i t x lo l y
    have hv' : RVs (Stb B S0 μ H w) w μ [l, y] [a.eval x, a.eval lo] := by simpa [Op.operands] using hv
    obtain ⟨h1, h2⟩ := RVs2 hv'
    obtain ⟨u, μ', g1, g2⟩ := slice_ok hT hs hm0 (vlo := some (a.eval lo)) (vhi := none) h1 h2 trivial hr hp
    exact done (by simp only [execOp, ho, Option.map_some, Option.map_none]) g1 g2
  · rename_i t x hi l y
    have hv' : RVs (Stb B S0 μ H w) w μ [l, y] [a.eval x, a.eval hi] := by simpa [Op.operands] using hv
    obtain ⟨h1, h2⟩ := RVs2 hv'
    obtain ⟨u, μ', g1, g2⟩ := slice_ok hT hs hm0 (vlo := none) (vhi := some (a.eval hi)) h1 trivial h2 hr hp
    exact done (by simp only [execOp, ho, Option.map_some, Option.map_none]) g1 g2
  · rename_i t x lo hi l y z
    have hv' : RVs (Stb B S0 μ H w) w μ [l, y, z] [a.eval x, a.eval lo, a.eval hi] := by simpa [Op.operands] using hv
    obtain ⟨h1, h2, h3⟩ := RVs3 hv'
    obtain ⟨u, μ', g1, g2⟩ := slice_ok hT hs hm0 (vlo := some (a.eval lo)) (vhi := some (a.eval hi)) h1 h2 h3 hr hp
    exact done (by simp only [execOp, ho, Option.map_some, Option.map_none]) g1 g2
  -- fields and elements
  · rename_i t x f p
    exact quiet (by simp only [execOp, ho]) (fieldAddr_ok hT (RVs1 hv) hr)
  · rename_i t x f p
    exact quiet (by simp only [execOp, ho]) (field_ok hT (RVs1 hv) hr)
  · rename_i t x i p q
    obtain ⟨h1, h2⟩ := RVs2 hv
    exact quiet (by simp only [execOp, ho]) (indexAddr_ok hT hs h1 h2 hr hp)
  · rename_i t x i p q
    obtain ⟨h1, h2⟩ := RVs2 hv
    exact quiet (by simp only [execOp, ho]) (index_ok hT h1 h2 hr hp)
  -- extract
  · rename_i x i vs
    obtain ⟨us, h1, h2⟩ := RVs1 hv
    split at hr
    · rename_i c hc
      cases hr
      rw [lget_eq] at hc
      obtain ⟨u, hu, hru⟩ := h2.get hc
      refine quiet (s := Instr.extract (a.eval x) i) (by simp only [execOp, ho]) ⟨u, ?_, rfl, hru⟩
      rw [h1]
      simp [Instr.extract, hu]
    · cases hr
  -- calls
  · rename_i c
    split at hr
    · rename_i b hb
      have hv' : RVs (Stb B S0 μ H w) w μ args (c.args.toList.map a.eval) := by
        simpa [Op.operands, Call.operands, hb] using hv
      have hargs : c.args.map a.eval = (c.args.toList.map a.eval).toArray := by apply Array.ext'; simp
      have hex : ∀ {s : Sem Value}, builtin b c.argTypes o.type (c.args.map fun | .const _ => true | _ => false) (c.args.map a.eval) = (do pure (.value (← s))) → execOp a.eval o = (do pure (.value (← s))) := by
        intro s h
        simp only [execOp, ho, resolve, hb]
        exact h
      unfold builtinR at hr
      split at hr
      · rename_i t u s x hts
        have hat : c.argTypes = #[t, u] := by apply Array.ext'; rw [hts]
        obtain ⟨v1, v2, hvv⟩ := two_of (l := c.args.toList.map a.eval) (by rw [← RVs_shape hv']; rfl)
        rw [hvv] at hv' hargs
        obtain ⟨h1, h2⟩ := RVs2 hv'
        split at hr
        · rename_i hku
          obtain ⟨v, w', μ', g1, g2⟩ := append_ok (ty := o.type) hT hs hm0 h1 h2 (Nat.eq_of_beq_eq_true hku) hr hp
          exact done (hex (by rw [hat, hargs]; rfl)) g1 g2
        · cases hr
      · rename_i t u d x hts
        have hat : c.argTypes = #[t, u] := by apply Array.ext'; rw [hts]
        obtain ⟨v1, v2, hvv⟩ := two_of (l := c.args.toList.map a.eval) (by rw [← RVs_shape hv']; rfl)
        rw [hvv] at hv' hargs
        obtain ⟨h1, h2⟩ := RVs2 hv'
        obtain ⟨v, w', g1, _, g2⟩ := copy_ok (ty := o.type) (base := base) (u := u) hT hs h1 h2 hr
        exact done (hex (by rw [hat, hargs]; rfl)) g1 g2
      · rename_i t ts x hts
        obtain ⟨v1, hvv⟩ := one_of (l := c.args.toList.map a.eval) (by rw [← RVs_shape hv']; rfl)
        rw [hvv] at hv' hargs
        have h0 : c.argTypes[0]? = some t := by rw [← Array.getElem?_toList, hts]; rfl
        exact quiet (hex (by rw [hargs]; rfl)) (len_ok (ty := o.type) hT hs h0 (RVs1 hv') hr)
      · rename_i ts l k n hts
        obtain ⟨u, us, hu, h1, h2⟩ := hv'
        split at hr
        · rename_i q hq
          cases hr
          simp only [RV] at h1
          subst h1
          refine quiet (s := Builtin.max_ c.argTypes o.type (c.args.map a.eval)) (hex rfl) ⟨.int k q, ?_, rfl, rfl⟩
          rw [hargs, hu]
          exact foldInts_ok (g := Builtin.max2) (fun a b => rfl) hq h2
        · cases hr
      · rename_i ts l k n hts
        obtain ⟨u, us, hu, h1, h2⟩ := hv'
        split at hr
        · rename_i q hq
          cases hr
          simp only [RV] at h1
          subst h1
          refine quiet (s := Builtin.min_ c.argTypes o.type (c.args.map a.eval)) (hex rfl) ⟨.int k q, ?_, rfl, rfl⟩
          rw [hargs, hu]
          exact foldInts_ok (g := Builtin.min2) (fun a b => rfl) hq h2
        · cases hr
      · cases hr
    · rename_i f hf
      split at hr
      · rename_i g caps q
        have hv' : RVs (Stb B S0 μ H w) w μ (.fn g caps :: q) (a.eval f :: c.args.toList.map a.eval) := by
          simpa [Op.operands, Call.operands, hf] using hv
        obtain ⟨u, us, hu, ⟨cs, h1, h2⟩, h3⟩ := hv'
        cases hu
        rw [lapp_eq] at hr
        obtain ⟨g1, g2⟩ := call_ok hK hs hm (h3.append h2) hr hp
        have hrun : (execOp a.eval o).run P w = .ok (.enter g ((c.args.toList.map a.eval ++ cs).toArray)) w := by
          rw [← g1]
          have harr : c.args.map a.eval ++ cs.toArray = (c.args.toList.map a.eval ++ cs).toArray := by apply Array.ext'; simp
          simp only [execOp, ho, resolve, hf, h1, Deferred.ofValue, Sem.run_bind, Sem.run_pure, Result.andThen_ok, invoke]
          rw [← harr]
          simp
        unfold Oper.wp
        rw [hrun, Oper.upon_enter]
        refine g2.mono ?_
        rintro e w' ⟨v, μ', rfl, hd⟩
        exact hn v w' μ' hd
      · cases hr
    · cases hr
  -- maps
  · rename_i t
    obtain ⟨u, w', μ', g1, g2⟩ := makeMap_ok hs hm0 hr
    exact done (by simp only [execOp, ho, Option.map_none]) g1 g2
  · rename_i t x y c m z
    obtain ⟨h1, h2⟩ := RVs2 hv
    exact quiet (by simp only [execOp, ho]) (lookup_ok hT hs h1 h2 hr)
  · rename_i t x y z m k v
    obtain ⟨h1, h2, h3⟩ := RVs3 hv
    obtain ⟨w', g1, g2⟩ := put_ok hT hs base h1 h2 h3 hr hp
    exact wp_skip' (by simp only [execOp, ho]; exact run_u g1) (hn _ _ _ g2)
  · cases hr
end
end Go.Proofs.YtaafjaibaaiigaaGreatDoor.Eng
/- Regions: operations one behind another, in the text's order and in a drawn one. Written for this seat's proofs. -/
set_option linter.unusedVariables false
set_option linter.unusedSimpArgs false
namespace Go.Proofs.YtaafjaibaaiigaaGreatDoor.Eng
open Go Go.RowKit

section
variable {P : Program} {E : Env} {B : Zn} {S0 : Nat → Prop} {w0 : World} {ops : Array Oper}

theorem allP_iff {l : List Prop} {K : Prop} : allP l K ↔ (∀ p ∈ l, p) ∧ K := by
  induction l with
  | nil => exact ⟨fun h => ⟨fun p hp => (by cases hp), h⟩, fun h => h.2⟩
  | cons a l ih =>
    constructor
    · rintro ⟨h1, h2⟩
      obtain ⟨h3, h4⟩ := ih.1 h2
      exact ⟨fun p hp => by rcases List.mem_cons.1 hp with rfl | hp; exact h1; exact h3 p hp, h4⟩
    · rintro ⟨h1, h2⟩
      exact ⟨h1 a List.mem_cons_self, ih.2 ⟨fun p hp => h1 p (List.mem_cons_of_mem _ hp), h2⟩⟩

theorem hget_hset (h : Nat) (o : Option Ob) (l : List (Nat × Ob)) : hget (hset h l o) = upd (hget l) h o := by
  induction l generalizing o with
  | nil =>
    funext n
    cases o with
    | none => show none = upd (hget []) h none n; unfold upd; split <;> rfl
    | some ob =>
      show (match Nat.beq n h with | true => some ob | false => none) = upd (hget []) h (some ob) n
      unfold upd
      cases Nat.beq n h <;> rfl
  | cons p r ih =>
    obtain ⟨g, q⟩ := p
    funext n
    have e1 : hset h ((g, q) :: r) o = (match Nat.beq h g with
      | true => (match o with | some ob => (h, ob) :: r | none => hset h r none)
      | false => (g, q) :: hset h r o) := rfl
    have e2 : ∀ (g : Nat) (q : Ob) (l : List (Nat × Ob)), hget ((g, q) :: l) n = (match Nat.beq n g with | true => some q | false => hget l n) := fun _ _ _ => rfl
    rw [e1]
    cases hb : Nat.beq h g with
    | true =>
      have hg := Nat.eq_of_beq_eq_true hb
      subst hg
      cases o with
      | some ob =>
        show hget ((h, ob) :: r) n = _
        rw [e2]
        unfold upd
        rw [e2]
        cases Nat.beq n h <;> rfl
      | none =>
        show hget (hset h r none) n = _
        rw [ih none]
        unfold upd
        rw [e2]
        cases Nat.beq n h <;> rfl
    | false =>
      show hget ((g, q) :: hset h r o) n = _
      rw [e2, ih o]
      unfold upd
      rw [e2]
      cases hn : Nat.beq n g with
      | true =>
        have hng := Nat.eq_of_beq_eq_true hn
        subst hng
        cases hnh : Nat.beq n h with
        | true =>
          have := Nat.eq_of_beq_eq_true hnh
          subst this
          rw [Nat.beq_refl] at hb
          cases hb
        | false => rfl
      | false => rfl
theorem hget_hsets (u : List (Nat × Option Ob)) : ∀ l : List (Nat × Ob), hget (hsets u l) = upds (hget l) u := by
  induction u with
  | nil => intro l; rfl
  | cons p u ih =>
    obtain ⟨h, o⟩ := p
    intro l
    show hget (hsets u (hset h l o)) = upds (upd (hget l) h o) u
    rw [ih, hget_hset]

theorem evL_ev (s : S) : evL s.slots = s.ev := by funext o; cases o <;> rfl

theorem execK_iff {o : Oper} {b : Nat} {sl : List AV} {hp : List (Nat × Ob)} {K : List AV → List (Nat × Ob) → Prop} :
    execK E o b sl hp K ↔ ∃ r, (opR E o.op (o.op.operands.toList.map (evL sl)) b).run (hget hp) = some r ∧ (∀ p ∈ r.ps, p) ∧ K (putL o.dst r.val sl) (hsets r.ups hp) := by
  unfold execK
  rw [evsK_eq]
  cases hr : (opR E o.op (o.op.operands.toList.map (evL sl)) b).run (hget hp) with
  | none => exact ⟨fun h => h.elim, fun ⟨r, h, _⟩ => by cases h⟩
  | some r =>
    simp only [bare2_eq, hsetsK_eq, putK_eq, allP_iff]
    exact ⟨fun h => ⟨r, rfl, h⟩, fun ⟨r', h, h2⟩ => by cases h; exact h2⟩

theorem put_slots (s : S) (d : Option Tmp) (v : AV) : s.put d v = ⟨putL d v s.slots, s.heap, s.next⟩ := by cases d <;> rfl
theorem lset_same {sl : List AV} {d : Nat} {v : AV} (h : lget sl d = some v) : lset v sl d = sl := by
  rw [lset_eq]
  rw [lget_eq] at h
  apply List.ext_getElem?
  intro i
  by_cases e : d = i
  · subst e
    rw [List.getElem?_set_self (List.getElem?_eq_some_iff.1 h).1, h]
  · rw [List.getElem?_set_ne e]

/-- A walk in the text's order is a run in that order. -/
theorem walk_run {base : Nat} {K : List AV → List (Nat × Ob) → Nat → Prop} {nx : Nat} : ∀ (os : List Oper) (k : Nat) (sl : List AV) (hp : List (Nat × Ob)), ops.toList.drop k = os → walkOps E ops K os (base + 8 * k) sl hp →
    runL E ops base (fun s => ∃ hp', s.heap = hget hp' ∧ K s.slots hp' (base + 8 * (k + os.length))) ((List.range os.length).map (k + ·)) ⟨sl, hget hp, nx⟩
  | [], k, sl, hp, _, h => ⟨hp, rfl, h⟩
  | o :: os, k, sl, hp, hd, h => by
    have hk : ops[k]? = some o := by
      have : (ops.toList.drop k)[0]? = some o := by rw [hd]; rfl
      rw [List.getElem?_drop] at this
      simpa using this
    have hd' : ops.toList.drop (k + 1) = os := by
      rw [← List.drop_drop, hd]
      rfl
    have e8 : base + 8 * k + 8 = base + 8 * (k + 1) := by omega
    have hlist : (List.range (o :: os).length).map (k + ·) = k :: (List.range os.length).map (k + 1 + ·) := by
      rw [List.length_cons, List.range_succ_eq_map, List.map_cons, List.map_map, Nat.add_zero]
      congr 1
      apply List.map_congr_left
      intro x _
      show k + (x + 1) = k + 1 + x
      omega
    have ih := fun sl hp => walk_run (nx := nx) (base := base) (K := K) os (k + 1) sl hp hd'
    have hlen : k + (o :: os).length = k + 1 + os.length := by simp; omega
    rw [hlist, hlen]
    have h' : natK (base + 8 * k + 8) (fun b' => match o.guard with
      | none => execK E o (base + 8 * k) sl hp (walkOps E ops K os b')
      | some (j, want) =>
        match (match lget ops.toList j with | some q => q.dst | none => none) with
        | some d => match lget sl d with
          | some (.bool c) => cond c
            (setK (.bool true) sl d fun sl => match want with
              | true => execK E o (base + 8 * k) sl hp (walkOps E ops K os b')
              | false => putK o.dst (.tup []) sl fun sl => walkOps E ops K os b' sl hp)
            (setK (.bool false) sl d fun sl => match want with
              | true => putK o.dst (.tup []) sl fun sl => walkOps E ops K os b' sl hp
              | false => execK E o (base + 8 * k) sl hp (walkOps E ops K os b'))
          | some (.tup []) => putK o.dst (.tup []) sl fun sl => walkOps E ops K os b' sl hp
          | _ => False
        | none => False) := h
    rw [natK_eq, e8] at h'
    have exe : execK E o (base + 8 * k) sl hp (walkOps E ops K os (base + 8 * (k + 1))) → ∃ r, (opR E o.op (o.op.operands.toList.map (S.ev ⟨sl, hget hp, nx⟩)) (base + 8 * k)).run (hget hp) = some r ∧ (∀ p ∈ r.ps, p) ∧
        runL E ops base (fun s => ∃ hp', s.heap = hget hp' ∧ K s.slots hp' (base + 8 * (k + 1 + os.length))) ((List.range os.length).map (k + 1 + ·)) { S.put ⟨sl, hget hp, nx⟩ o.dst r.val with heap := upds (hget hp) r.ups } := by
      intro hx
      obtain ⟨r, h1, h2, h3⟩ := execK_iff.1 hx
      refine ⟨r, by rw [← evL_ev]; exact h1, h2, ?_⟩
      have := ih _ _ h3
      rw [put_slots, ← hget_hsets]
      exact this
    have skp : ∀ sl', sl' = sl → (putK o.dst (.tup []) sl' fun sl => walkOps E ops K os (base + 8 * (k + 1)) sl hp) → runL E ops base (fun s => ∃ hp', s.heap = hget hp' ∧ K s.slots hp' (base + 8 * (k + 1 + os.length))) ((List.range os.length).map (k + 1 + ·)) (S.put ⟨sl, hget hp, nx⟩ o.dst (.tup [])) := by
      rintro sl' rfl hx
      rw [putK_eq] at hx
      have := ih _ _ hx
      rw [put_slots]
      exact this
    show (match exec E ops base k ⟨sl, hget hp, nx⟩ with | some x => (∀ p ∈ x.ps, p) ∧ runL E ops base _ _ x.s | none => False)
    unfold exec wantedOf
    rw [hk]
    simp only
    cases hg : o.guard with
    | none =>
      rw [hg] at h'
      obtain ⟨r, h1, h2, h3⟩ := exe h'
      simp only [h1]
      exact ⟨h2, h3⟩
    | some q =>
      obtain ⟨j, want⟩ := q
      rw [hg] at h'
      simp only at h' ⊢
      have hj : (match lget ops.toList j with | some q => q.dst | none => none) = (ops[j]?).bind (·.dst) := by
        rw [lget_eq]
        simp only [Array.getElem?_toList]
        cases ops[j]? <;> rfl
      rw [hj] at h'
      cases hd2 : (ops[j]?).bind (·.dst) with
      | none => rw [hd2] at h'; exact h'.elim
      | some d =>
        rw [hd2] at h'
        simp only at h'
        simp only [Option.bind_some]
        rw [← lget_eq]
        cases hv : lget sl d with
        | none => rw [hv] at h'; exact h'.elim
        | some v =>
          rw [hv] at h'
          cases v with
          | bool c =>
            simp only at h' ⊢
            cases c with
            | true =>
              simp only [cond_true, setK_eq] at h'
              rw [lset_same hv] at h'
              cases want with
              | true =>
                obtain ⟨r, h1, h2, h3⟩ := exe h'
                simp only [BEq.rfl, h1]
                exact ⟨h2, h3⟩
              | false =>
                simp only [show (true == false) = false from rfl]
                exact ⟨fun p hp => (by cases hp), skp sl rfl h'⟩
            | false =>
              simp only [cond_false, setK_eq] at h'
              rw [lset_same hv] at h'
              cases want with
              | true =>
                simp only [show (false == true) = false from rfl]
                exact ⟨fun p hp => (by cases hp), skp sl rfl h'⟩
              | false =>
                obtain ⟨r, h1, h2, h3⟩ := exe h'
                simp only [BEq.rfl, h1]
                exact ⟨h2, h3⟩
          | tup cs =>
            cases cs with
            | cons _ _ => exact h'.elim
            | nil => exact ⟨fun p hp => (by cases hp), skp sl rfl h'⟩
          | _ => exact h'.elim
end
end Go.Proofs.YtaafjaibaaiigaaGreatDoor.Eng
/- Runs of a region against the model: in one order, and in whatever order is drawn. Written for this seat's proofs. -/
set_option linter.unusedVariables false
set_option linter.unusedSimpArgs false
namespace Go.Proofs.YtaafjaibaaiigaaGreatDoor.Eng
open Go Go.RowKit

/-- What some slots hold for good, and blocks that nothing touches. -/
structure Pinned where
  slots : List (Nat × Value)
  blocks : Nat → Prop
  /-- names that keep their place -/
  nm : List (Nat × Wh) := []
  df : List Deferred := []
def dfOf : Option Pinned → List Deferred
  | none => []
  | some p => p.df
def Gh (B : Zn) (S0 : Nat → Prop) (PV : Option Pinned) (w0 : World) (μ : Nat → Option Wh) (H : Nat → Option Ob) (a : Act) (w : World) : Prop :=
  ∀ p, PV = some p → (∀ q ∈ p.1, a.tmps.toList[q.1]? = some q.2) ∧ (∀ b, p.2 b → Stb B S0 μ H w b ∧ w.heap[b]? = w0.heap[b]?) ∧ ∀ q ∈ p.nm, μ q.1 = some q.2
theorem Gh.keep {B : Zn} {S0 : Nat → Prop} {PV : Option Pinned} {w0 w w' : World} {μ μ' : Nat → Option Wh} {H H' : Nat → Option Ob} {a : Act} (h : Gh B S0 PV w0 μ H a w) (k : Keeps (Stb B S0 μ H w) (Stb B S0 μ' H' w') w w') (e : ∀ p, PV = some p → ∀ q ∈ p.nm, μ q.1 = some q.2 → μ' q.1 = some q.2) : Gh B S0 PV w0 μ' H' a w' :=
  fun p hp => ⟨(h p hp).1, fun b hb => ⟨k.st b ((h p hp).2.1 b hb).1, (k.at_ b ((h p hp).2.1 b hb).1).trans ((h p hp).2.1 b hb).2⟩, fun q hq => e p hp q hq ((h p hp).2.2 q hq)⟩
/-- The state apart from memory, and the model's. -/
structure Sim (B : Zn) (S0 : Nat → Prop) (PV : Option Pinned) (w0 : World) (μ : Nat → Option Wh) (sl : List AV) (H : Nat → Option Ob) (a : Act) (w : World) : Prop where
  hs : HS B S0 μ H w
  vals : RVs (Stb B S0 μ H w) w μ sl a.tmps.toList
  df : a.defers = dfOf PV
  bel : Bel B w0 w
  gh : Gh B S0 PV w0 μ H a w

section
variable {P : Program} {E : Env} {B : Zn} {S0 : Nat → Prop} {w0 : World} {PV : Option Pinned} {ops : Array Oper} {Q : Exit → Act → World → Prop}

theorem Sim.ev {μ : Nat → Option Wh} {s : S} {a : Act} {w : World} (h : Sim B S0 PV w0 μ s.slots s.heap a w) (o : Operand) : RV (Stb B S0 μ s.heap w) w μ (s.ev o) (a.eval o) := by
  cases o with
  | tmp t =>
    show RV _ _ _ (match lget s.slots t with | some v => v | none => .undef) (a.tmps.getD t undef)
    rw [lget_eq]
    cases hv : s.slots[t]? with
    | none => trivial
    | some v =>
      obtain ⟨u, hu, hr⟩ := h.vals.get hv
      have : a.tmps.getD t undef = u := by
        rw [Array.getElem?_toList] at hu
        simp [Array.getD_eq_getD_getElem?, hu]
      rw [this]
      exact hr
  | const v => exact RV_ofValue v
  | global g => trivial
  | func f => exact ⟨[], rfl, rfl⟩
theorem Sim.evs {μ : Nat → Option Wh} {s : S} {a : Act} {w : World} (h : Sim B S0 PV w0 μ s.slots s.heap a w) : ∀ os : List Operand, RVs (Stb B S0 μ s.heap w) w μ (os.map s.ev) (os.map a.eval)
  | [] => rfl
  | o :: os => ⟨_, _, rfl, h.ev o, h.evs os⟩

theorem Sim.put {μ μ' : Nat → Option Wh} {sl : List AV} {H H' : Nat → Option Ob} {a : Act} {w w' : World} {base : Nat} {c : AV} {v : Value} (h : Sim B S0 PV w0 μ sl H a w) (d : Done B S0 μ H w base H' c v μ' w') (dst : Option Tmp) (hz : ∀ p, PV = some p → ∀ q ∈ p.1, dst ≠ some q.1) :
    Sim B S0 PV w0 μ' (putL dst c sl) H' (a.put dst v) w' := by
  have hv := RVs.mono d.keep d.ext _ _ h.vals
  refine ⟨d.hs, ?_, ?_, h.bel.trans d.bel, ?_⟩
  · cases dst with
    | none => exact hv
    | some t =>
      show RVs _ _ _ (lset c sl t) (a.tmps.setIfInBounds t v).toList
      rw [lset_eq, Array.toList_setIfInBounds]
      exact hv.set t d.val
  · cases dst <;> exact h.df
  · intro p hp
    obtain ⟨h1, h2⟩ := (h.gh.keep d.keep (fun p hp q hq e => d.ext _ _ e)) p hp
    refine ⟨?_, h2⟩
    intro q hq
    cases dst with
    | none => exact h1 q hq
    | some t =>
      show (a.tmps.setIfInBounds t v).toList[q.1]? = some q.2
      have ht : t ≠ q.1 := fun e => hz p hp q hq (by rw [e])
      rw [Array.toList_setIfInBounds, List.getElem?_set_ne ht]
      exact h1 q hq
/-- Nothing is written to the pinned slot. -/
def NoZ (PV : Option Pinned) (ops : Array Oper) : Prop := ∀ p, PV = some p → ∀ q ∈ p.1, ∀ (i : Nat) (o : Oper), ops[i]? = some o → o.dst ≠ some q.1
theorem NoZ.at_ {PV : Option Pinned} {ops : Array Oper} (h : NoZ PV ops) {i : Nat} {o : Oper} (ho : ops[i]? = some o) : ∀ p, PV = some p → ∀ q ∈ p.1, o.dst ≠ some q.1 := fun p hp q hq => h p hp q hq i o ho

theorem exec_ok (hT : TOk P E) (hK : ∀ f k, findK E.K f = some k → CtrOk P f k) {μ : Nat → Option Wh} {s : S} {a : Act} {w : World} (hz : NoZ PV ops) (h : Sim B S0 PV w0 μ s.slots s.heap a w) {base i : Nat} (hm : ∀ q, base + 8 * i ≤ q → q < base + 8 * i + 8 → μ q = none) {x : Fx}
    (hx : exec E ops base i s = some x) (hp : ∀ p ∈ x.ps, p) {K : Act → World → Prop}
    (hn : ∀ a' w' μ', Sim B S0 PV w0 μ' x.s.slots x.s.heap a' w' → (∀ q, (q < base + 8 * i ∨ base + 8 * i + 8 ≤ q) → μ' q = μ q) → K a' w') : wpOp P ops Q i K a w := by
  unfold exec wantedOf at hx
  unfold wpOp
  cases ho : ops[i]? with
  | none =>
    rw [ho] at hx
    cases hx
    exact hn a w μ h fun _ _ => rfl
  | some o =>
    rw [ho] at hx
    simp only at hx ⊢
    have skip : K (a.put o.dst undef) w ∨ x.s ≠ s.put o.dst (.tup []) := by
      by_cases e : x.s = s.put o.dst (.tup [])
      · left
        refine hn _ w μ ?_ fun _ _ => rfl
        rw [e, put_slots]
        exact h.put (Done.quiet (base := 0) (c := .tup []) (v := undef) h.hs ⟨[], rfl, rfl⟩) o.dst (hz.at_ ho)
      · exact Or.inr e
    have go : ∀ {r : Res}, (opR E o.op (o.op.operands.toList.map s.ev) (base + 8 * i)).run s.heap = some r → x = ⟨r.ps, { s.put o.dst r.val with heap := upds s.heap r.ups }, (opR E o.op (o.op.operands.toList.map s.ev) (base + 8 * i)).reads s.heap, r.ups.map Prod.fst⟩ → o.wp P a w K Q := by
      rintro r hr rfl
      refine op_ok hT hK h.hs hm rfl (h.evs _) hr hp fun v w' μ' d => hn _ w' μ' ?_ d.new
      have := h.put d o.dst (hz.at_ ho)
      show Sim B S0 PV w0 μ' (s.put o.dst r.val).slots (upds s.heap r.ups) _ _
      rw [put_slots]
      exact this
    have run : (match (opR E o.op (o.op.operands.toList.map s.ev) (base + 8 * i)).run s.heap with
      | some r => some (⟨r.ps, { s.put o.dst r.val with heap := upds s.heap r.ups }, (opR E o.op (o.op.operands.toList.map s.ev) (base + 8 * i)).reads s.heap, r.ups.map Prod.fst⟩ : Fx)
      | none => none) = some x → o.wp P a w K Q := by
      intro hx
      cases hr : (opR E o.op (o.op.operands.toList.map s.ev) (base + 8 * i)).run s.heap with
      | none => rw [hr] at hx; cases hx
      | some r =>
        rw [hr] at hx
        exact go hr (Option.some.inj hx).symm
    cases hg : o.guard with
    | none =>
      rw [hg] at hx
      have hw : Region.wanted o (yielded ops a.tmps) = true := by simp [Region.wanted, hg]
      rw [if_pos hw]
      exact Or.inl (run hx)
    | some q =>
      obtain ⟨j, want⟩ := q
      rw [hg] at hx
      simp only at hx
      cases hd : (ops[j]?).bind (·.dst) with
      | none => rw [hd] at hx; cases hx
      | some d =>
        rw [hd] at hx
        simp only [Option.bind_some] at hx
        cases hv : s.slots[d]? with
        | none => rw [hv] at hx; cases hx
        | some v =>
          rw [hv] at hx
          cases v with
          | bool b =>
            simp only at hx
            obtain ⟨u, hu, hru⟩ := h.vals.get hv
            simp only [RV] at hru
            subst hru
            rw [Array.getElem?_toList] at hu
            have hy : yielded ops a.tmps j = some b := by simp [yielded, hd, hu]
            have hw : Region.wanted o (yielded ops a.tmps) = (b == want) := by
              simp only [Region.wanted, hg, hy]
              cases b <;> cases want <;> rfl
            rw [hw]
            cases hbw : b == want with
            | true =>
              rw [hbw] at hx
              simp only at hx
              rw [if_pos rfl]
              exact Or.inl (run hx)
            | false =>
              rw [hbw] at hx
              simp only at hx
              rw [if_neg (by simp)]
              cases hx
              exact skip.resolve_right (fun e => e rfl)
          | tup cs =>
            cases cs with
            | cons _ _ => cases hx
            | nil =>
              simp only at hx
              obtain ⟨u, hu, hru⟩ := h.vals.get hv
              obtain ⟨vs, rfl, hvs⟩ := hru
              cases hvs
              rw [Array.getElem?_toList] at hu
              have hy : yielded ops a.tmps j = none := by simp [yielded, hd, hu]
              have hw : Region.wanted o (yielded ops a.tmps) = false := by
                simp only [Region.wanted, hg, hy]
                rfl
              rw [hw, if_neg (by simp)]
              cases hx
              exact skip.resolve_right (fun e => e rfl)
          | _ => cases hx

theorem runL_ok (hT : TOk P E) (hK : ∀ f k, findK E.K f = some k → CtrOk P f k) (hz : NoZ PV ops) {base : Nat} {K : S → Prop} : ∀ (l : List Nat), l.Nodup → ∀ {μ : Nat → Option Wh} {s : S} {a : Act} {w : World}, runL E ops base K l s → Sim B S0 PV w0 μ s.slots s.heap a w →
    (∀ i ∈ l, ∀ q, base + 8 * i ≤ q → q < base + 8 * i + 8 → μ q = none) →
    (∀ s' a' w' μ', Sim B S0 PV w0 μ' s'.slots s'.heap a' w' → K s' → (∀ q, (∀ i ∈ l, q < base + 8 * i ∨ base + 8 * i + 8 ≤ q) → μ' q = μ q) → Q .normal a' w') → wpOps P ops Q l a w
  | [], _, μ, s, a, w, h, hsim, _, hn => hn s a w μ hsim h fun _ _ => rfl
  | i :: l, hnd, μ, s, a, w, h, hsim, hm, hn => by
    rw [wpOps_cons]
    obtain ⟨hi, hnd'⟩ := List.nodup_cons.1 hnd
    have h' : (match exec E ops base i s with | some x => (∀ p ∈ x.ps, p) ∧ runL E ops base K l x.s | none => False) := h
    cases hx : exec E ops base i s with
    | none => rw [hx] at h'; exact h'.elim
    | some x =>
      rw [hx] at h'
      refine exec_ok hT hK hz hsim (hm i List.mem_cons_self) hx h'.1 fun a' w' μ' hs' hμ => ?_
      refine runL_ok hT hK hz l hnd' h'.2 hs' (fun j hj q h1 h2 => ?_) (fun s'' a'' w'' μ'' hs'' hk hq => hn s'' a'' w'' μ'' hs'' hk fun q hq' => ?_)
      · have hij : i ≠ j := fun e => hi (e ▸ hj)
        rw [hμ q (by omega)]
        exact hm j (List.mem_cons_of_mem _ hj) q h1 h2
      · rw [hq q fun j hj => hq' j (List.mem_cons_of_mem _ hj)]
        exact hμ q (hq' i List.mem_cons_self)
end
end Go.Proofs.YtaafjaibaaiigaaGreatDoor.Eng
/- A region that draws its order: whatever is drawn, the text's order tells. Written for this seat's proofs. -/
set_option linter.unusedVariables false
set_option linter.unusedSimpArgs false
namespace Go.Proofs.YtaafjaibaaiigaaGreatDoor.Eng
open Go Go.RowKit

section
variable {P : Program} {E : Env} {B : Zn} {S0 : Nat → Prop} {w0 : World} {PV : Option Pinned} {ops : Array Oper} {Q : Exit → Act → World → Prop}

theorem run_agree {α : Type} {H H' : Nat → Option Ob} {x : Rd α} (h : ∀ n ∈ x.reads H, H' n = H n) : x.run H' = x.run H ∧ x.reads H' = x.reads H := by
  induction x with
  | ok a => exact ⟨rfl, rfl⟩
  | bad => exact ⟨rfl, rfl⟩
  | get q k ih =>
    have hq : H' q = H q := h q List.mem_cons_self
    have := ih (H q) fun n hn => h n (List.mem_cons_of_mem _ hn)
    show (k (H' q)).run H' = (k (H q)).run H ∧ (q :: (k (H' q)).reads H') = q :: (k (H q)).reads H
    rw [hq]
    exact ⟨this.1, by rw [this.2]⟩

theorem upds_off {u : List (Nat × Option Ob)} : ∀ {H : Nat → Option Ob} {n : Nat}, n ∉ u.map Prod.fst → upds H u n = H n := by
  induction u with
  | nil => intro H n _; rfl
  | cons p u ih =>
    obtain ⟨h, o⟩ := p
    intro H n hn
    rw [upds_cons, ih (fun h' => hn (List.mem_cons_of_mem _ h'))]
    exact upd_other _ fun e => hn (by rw [e]; exact List.mem_cons_self)
theorem upds_on {u : List (Nat × Option Ob)} : ∀ {H H' : Nat → Option Ob} {n : Nat}, n ∈ u.map Prod.fst → upds H u n = upds H' u n := by
  induction u with
  | nil => intro H H' n h; cases h
  | cons p u ih =>
    obtain ⟨h, o⟩ := p
    intro H H' n hn
    rw [upds_cons, upds_cons]
    by_cases hin : n ∈ u.map Prod.fst
    · exact ih hin
    · rw [upds_off hin, upds_off hin]
      rcases List.mem_cons.1 hn with e | e
      · have e : n = h := e
        subst e
        rw [upd_same, upd_same]
      · exact absurd e hin
theorem upds_swap {u v : List (Nat × Option Ob)} (h : ∀ n ∈ u.map Prod.fst, n ∉ v.map Prod.fst) (H : Nat → Option Ob) : upds (upds H u) v = upds (upds H v) u := by
  funext n
  by_cases hu : n ∈ u.map Prod.fst
  · rw [upds_off (h n hu), upds_on (H' := upds H v) hu]
  · rw [upds_off (H := upds H v) hu]
    by_cases hv : n ∈ v.map Prod.fst
    · exact upds_on hv
    · rw [upds_off hv, upds_off hv, upds_off hu]

/-- What an operation looks at among the slots. -/
theorem ev_put {s : S} {d : Option Tmp} {v : AV} {H : Nat → Option Ob} {x : Operand} (h : ∀ t, d = some t → x ≠ .tmp t) : S.ev { s.put d v with heap := H } x = s.ev x := by
  cases x with
  | tmp t =>
    cases d with
    | none => rfl
    | some e =>
      have hne : e ≠ t := fun h' => h e rfl (by rw [h'])
      show (match lget (lset v s.slots e) t with | some v => v | none => .undef) = (match lget s.slots t with | some v => v | none => .undef)
      rw [lget_eq, lget_eq, lset_eq, List.getElem?_set_ne hne]
  | _ => cases d <;> rfl

/-- The part of a state that an operation sees, and what it makes of it. -/
structure Eff where
  ps : List Prop
  v : AV
  u : List (Nat × Option Ob)
  rs : List Nat
noncomputable def effOf (E : Env) (ops : Array Oper) (base i : Nat) (o : Oper) (s : S) : Option Eff :=
  match wantedOf ops o s.slots with
    | some true => (match (opR E o.op (o.op.operands.toList.map s.ev) (base + 8 * i)).run s.heap with
      | some r => some ⟨r.ps, r.val, r.ups, (opR E o.op (o.op.operands.toList.map s.ev) (base + 8 * i)).reads s.heap⟩
      | none => none)
    | some false => some ⟨[], .tup [], [], []⟩
    | none => none
noncomputable def Eff.app (e : Eff) (d : Option Tmp) (s : S) : S := { s.put d e.v with heap := upds s.heap e.u }
theorem exec_eff {base i : Nat} {s : S} {o : Oper} (ho : ops[i]? = some o) : exec E ops base i s = (effOf E ops base i o s).map fun e => ⟨e.ps, e.app o.dst s, e.rs, e.u.map Prod.fst⟩ := by
  unfold exec effOf
  rw [ho]
  simp only
  generalize wantedOf ops o s.slots = g
  cases g with
  | none => rfl
  | some b =>
    cases b with
    | true =>
      simp only
      cases (opR E o.op (o.op.operands.toList.map s.ev) (base + 8 * i)).run s.heap <;> rfl
    | false =>
      show some (⟨[], s.put o.dst (.tup []), [], []⟩ : Fx) = some ⟨[], { s.put o.dst (.tup []) with heap := upds s.heap [] }, [], []⟩
      rw [upds_nil]
      cases o.dst <;> rfl

/-- What another operation did does not touch it. -/
theorem eff_app {base i : Nat} {o p : Oper} {s : S} {e e' : Eff} (hlook : ∀ d, p.dst = some d → d ∉ o.looksAt ops) (he : effOf E ops base i o s = some e) (hr : ∀ n ∈ e.rs, n ∉ e'.u.map Prod.fst) : effOf E ops base i o (e'.app p.dst s) = some e := by
  have hev : o.op.operands.toList.map (S.ev (e'.app p.dst s)) = o.op.operands.toList.map s.ev := by
    apply List.map_congr_left
    intro x hx
    refine ev_put fun t ht hxt => hlook t ht ?_
    subst hxt
    exact List.mem_append_left _ (List.mem_filterMap.2 ⟨.tmp t, hx, rfl⟩)
  have hgd : ∀ j want, o.guard = some (j, want) → ((ops[j]?).bind (·.dst)).bind (fun d => (e'.app p.dst s).slots[d]?) = ((ops[j]?).bind (·.dst)).bind (fun d => s.slots[d]?) := by
    intro j want hg
    cases hd : (ops[j]?).bind (·.dst) with
    | none => rfl
    | some d =>
      simp only [Option.bind_some]
      have hin : d ∈ o.looksAt ops := by
        unfold Oper.looksAt
        rw [hg]
        exact List.mem_append_right _ (by simp [hd])
      show (S.put s p.dst e'.v).slots[d]? = _
      rw [put_slots]
      cases hp : p.dst with
      | none => rfl
      | some t =>
        have hne : t ≠ d := fun h => hlook t hp (h ▸ hin)
        show (lset e'.v s.slots t)[d]? = _
        rw [lset_eq, List.getElem?_set_ne hne]
  unfold effOf at he ⊢
  rw [hev]
  have hgg : wantedOf ops o (e'.app p.dst s).slots = wantedOf ops o s.slots := by
    unfold wantedOf
    cases hg : o.guard with
    | none => rfl
    | some q =>
      obtain ⟨j, want⟩ := q
      simp only
      rw [hgd j want hg]
  rw [hgg]
  revert he
  generalize wantedOf ops o s.slots = g
  intro he
  cases g with
  | none => cases he
  | some b =>
    cases b with
    | false => exact he
    | true =>
      simp only at he ⊢
      cases hrun : (opR E o.op (o.op.operands.toList.map s.ev) (base + 8 * i)).run s.heap with
      | none => rw [hrun] at he; cases he
      | some r =>
        rw [hrun] at he
        cases he
        obtain ⟨a1, a2⟩ := run_agree (x := opR E o.op (o.op.operands.toList.map s.ev) (base + 8 * i)) (H := s.heap) (H' := (e'.app p.dst s).heap) (fun n hn => upds_off (hr n hn))
        rw [a1, hrun, a2]

theorem app_swap {o p : Oper} {s : S} {e e' : Eff} (hd : ∀ d, o.dst = some d → p.dst ≠ some d) (hu : ∀ n ∈ e.u.map Prod.fst, n ∉ e'.u.map Prod.fst) : e'.app p.dst (e.app o.dst s) = e.app o.dst (e'.app p.dst s) := by
  unfold Eff.app
  simp only [put_slots]
  rw [upds_swap hu]
  have : putL p.dst e'.v (putL o.dst e.v s.slots) = putL o.dst e.v (putL p.dst e'.v s.slots) := by
    cases h1 : o.dst with
    | none => rfl
    | some d =>
      cases h2 : p.dst with
      | none => rfl
      | some t =>
        have hne : d ≠ t := fun h => hd d h1 (by rw [h2, h])
        show lset e'.v (lset e.v s.slots d) t = lset e.v (lset e'.v s.slots t) d
        rw [lset_eq, lset_eq, lset_eq, lset_eq, List.set_comm _ _ hne]
  rw [this]

theorem hasN_iff {n : Nat} {l : List Nat} : hasN n l = true ↔ n ∈ l := by
  induction l with
  | nil => exact ⟨fun h => (by cases h), fun h => (by cases h)⟩
  | cons m l ih =>
    show (match Nat.beq n m with | true => true | false => hasN n l) = true ↔ _
    cases hb : Nat.beq n m with
    | true =>
      have := Nat.eq_of_beq_eq_true hb
      subst this
      exact ⟨fun _ => List.mem_cons_self, fun _ => rfl⟩
    | false =>
      simp only [ih, List.mem_cons]
      refine ⟨Or.inr, fun h => h.resolve_left fun e => ?_⟩
      subst e
      rw [Nat.beq_refl] at hb
      cases hb
theorem disj_iff {l q : List Nat} : disj l q = true ↔ ∀ n ∈ l, n ∉ q := by
  unfold disj
  rw [lall_eq, List.all_eq_true]
  constructor
  · intro h n hn hq
    have := h n hn
    rw [hasN_iff.2 hq] at this
    cases this
  · intro h n hn
    cases hh : hasN n q with
    | true => exact absurd (hasN_iff.1 hh) (h n hn)
    | false => rfl

/-- Bit j of a mask. -/
def bit (mask j : Nat) : Bool := Nat.beq (Nat.land (Nat.shiftRight mask j) 1) 1
def footOk (mask : Nat) (R W : List Nat) (f : Nat × List Nat × List Nat) : Prop := bit mask f.1 = true ∨ ((∀ n ∈ f.2.2, n ∉ R) ∧ (∀ n ∈ f.2.2, n ∉ W) ∧ ∀ n ∈ W, n ∉ f.2.1)
theorem okAcc_iff {mask : Nat} {R W : List Nat} {acc : Foot} : okAcc mask R W acc = true ↔ ∀ f ∈ acc, footOk mask R W f := by
  have main : lall (fun f : Nat × List Nat × List Nat => match Nat.beq (Nat.land (Nat.shiftRight mask f.1) 1) 1 with
    | true => true
    | false => andB (disj f.2.2 R) (andB (disj f.2.2 W) (disj W f.2.1))) acc = true ↔ ∀ f ∈ acc, footOk mask R W f := by
    rw [lall_eq, List.all_eq_true]
    refine forall_congr' fun f => forall_congr' fun _ => ?_
    unfold footOk bit
    cases Nat.beq (Nat.land (Nat.shiftRight mask f.1) 1) 1 with
    | true => simp
    | false =>
      simp only [Bool.false_eq_true, false_or]
      rw [← disj_iff, ← disj_iff, ← disj_iff]
      constructor
      · intro h
        obtain ⟨h1, h2⟩ := andB_true h
        exact ⟨h1, andB_true h2⟩
      · rintro ⟨h1, h2, h3⟩
        simp [andB, h1, h2, h3]
  unfold okAcc
  split
  · refine ⟨fun _ f _ => Or.inr ⟨fun n _ h => (by cases h), fun n _ h => (by cases h), fun n h => (by cases h)⟩, fun _ => rfl⟩
  · exact main
theorem mem_pushAcc {i : Nat} {R W : List Nat} {acc : Foot} {f : Nat × List Nat × List Nat} (h : f ∈ pushAcc i R W acc) : f = (i, R, W) ∨ f ∈ acc := by
  unfold pushAcc at h
  split at h
  · exact Or.inr h
  · exact List.mem_cons.1 h
theorem pushAcc_mem {i : Nat} {R W : List Nat} {acc : Foot} : (∀ f ∈ acc, f ∈ pushAcc i R W acc) ∧ ((i, R, W) ∈ pushAcc i R W acc ∨ (R = [] ∧ W = [])) := by
  unfold pushAcc
  split
  · exact ⟨fun f h => h, Or.inr ⟨rfl, rfl⟩⟩
  · exact ⟨fun f h => List.mem_cons_of_mem _ h, Or.inl List.mem_cons_self⟩
end
end Go.Proofs.YtaafjaibaaiigaaGreatDoor.Eng
/- A region that draws its order: whatever is drawn, the text's order tells (the end). Written for this seat's proofs. -/
set_option linter.unusedVariables false
set_option linter.unusedSimpArgs false
namespace Go.Proofs.YtaafjaibaaiigaaGreatDoor.Eng
open Go Go.RowKit

section
variable {P : Program} {E : Env} {B : Zn} {S0 : Nat → Prop} {w0 : World} {PV : Option Pinned} {ops : Array Oper} {Q : Exit → Act → World → Prop} {ms : List Nat} {base : Nat} {K : S → Prop}

theorem eff_unapp {base i : Nat} {o p : Oper} {s : S} {e e' : Eff} (hlook : ∀ d, p.dst = some d → d ∉ o.looksAt ops) (he : effOf E ops base i o (e'.app p.dst s) = some e) (hr : ∀ n ∈ e.rs, n ∉ e'.u.map Prod.fst) : effOf E ops base i o s = some e := by
  have hev : o.op.operands.toList.map (S.ev (e'.app p.dst s)) = o.op.operands.toList.map s.ev := by
    apply List.map_congr_left
    intro x hx
    refine ev_put fun t ht hxt => hlook t ht ?_
    subst hxt
    exact List.mem_append_left _ (List.mem_filterMap.2 ⟨.tmp t, hx, rfl⟩)
  have hgg : wantedOf ops o (e'.app p.dst s).slots = wantedOf ops o s.slots := by
    unfold wantedOf
    cases hg : o.guard with
    | none => rfl
    | some q =>
      obtain ⟨j, want⟩ := q
      simp only
      have : ((ops[j]?).bind (·.dst)).bind (fun d => (e'.app p.dst s).slots[d]?) = ((ops[j]?).bind (·.dst)).bind (fun d => s.slots[d]?) := by
        cases hd : (ops[j]?).bind (·.dst) with
        | none => rfl
        | some d =>
          simp only [Option.bind_some]
          have hin : d ∈ o.looksAt ops := by
            unfold Oper.looksAt
            rw [hg]
            exact List.mem_append_right _ (by simp [hd])
          show (S.put s p.dst e'.v).slots[d]? = _
          rw [put_slots]
          cases hp : p.dst with
          | none => rfl
          | some t =>
            have hne : t ≠ d := fun h => hlook t hp (h ▸ hin)
            show (lset e'.v s.slots t)[d]? = _
            rw [lset_eq, List.getElem?_set_ne hne]
      rw [this]
  unfold effOf at he ⊢
  rw [hev, hgg] at he
  revert he
  generalize wantedOf ops o s.slots = g
  intro he
  cases g with
  | none => cases he
  | some b =>
    cases b with
    | false => exact he
    | true =>
      simp only at he ⊢
      cases hrun : (opR E o.op (o.op.operands.toList.map s.ev) (base + 8 * i)).run (e'.app p.dst s).heap with
      | none => rw [hrun] at he; cases he
      | some r =>
        rw [hrun] at he
        cases he
        obtain ⟨a1, a2⟩ := run_agree (x := opR E o.op (o.op.operands.toList.map s.ev) (base + 8 * i)) (H := (e'.app p.dst s).heap) (H' := s.heap) (fun n hn => (upds_off (hr n hn)).symm)
        rw [a1, hrun, a2]

noncomputable def maskAt (ms : List Nat) (i : Nat) : Nat := match lget ms i with | some m => m | none => 0

theorem runD_cons {i : Nat} {l : List Nat} {s : S} {acc : Foot} : runD E ops ms base K (i :: l) s acc ↔ ∃ x, exec E ops base i s = some x ∧ (∀ f ∈ acc, footOk (maskAt ms i) x.rs x.ws f) ∧ (∀ p ∈ x.ps, p) ∧ runD E ops ms base K l x.s (pushAcc i x.rs x.ws acc) := by
  have e : runD E ops ms base K (i :: l) s acc = (match exec E ops base i s with
    | some x => okAcc (maskAt ms i) x.rs x.ws acc = true ∧ (∀ p ∈ x.ps, p) ∧ runD E ops ms base K l x.s (pushAcc i x.rs x.ws acc)
    | none => False) := rfl
  rw [e]
  cases exec E ops base i s with
  | none => exact ⟨fun h => h.elim, fun ⟨x, h, _⟩ => by cases h⟩
  | some x =>
    simp only [okAcc_iff]
    exact ⟨fun h => ⟨x, rfl, h⟩, fun ⟨x', h, h2⟩ => by cases h; exact h2⟩

theorem runD_mono : ∀ {l : List Nat} {s : S} {acc acc' : Foot}, (∀ f ∈ acc', f ∈ acc) → runD E ops ms base K l s acc → runD E ops ms base K l s acc'
  | [], _, _, _, _, h => h
  | i :: l, s, acc, acc', hsub, h => by
    obtain ⟨x, h1, h2, h3, h4⟩ := runD_cons.1 h
    refine runD_cons.2 ⟨x, h1, fun f hf => h2 f (hsub f hf), h3, runD_mono (fun f hf => ?_) h4⟩
    rcases mem_pushAcc hf with rfl | hf'
    · rcases pushAcc_mem (i := i) (R := x.rs) (W := x.ws) (acc := acc) with ⟨_, h⟩
      rcases h with h | ⟨hr, hw⟩
      · exact h
      · unfold pushAcc at hf ⊢
        rw [hr, hw] at hf ⊢
        simp only at hf ⊢
        exact hsub _ hf
    · exact pushAcc_mem.1 f (hsub f hf')

/-- An operation that may be carried out now, drawn ahead of those that stand before it. -/
theorem pull {i : Nat} {oi : Oper} (hoi : ops[i]? = some oi) : ∀ {pre post : List Nat} {s : S} {acc : Foot},
    (∀ j ∈ pre, bit (maskAt ms i) j = false ∧ ∃ oj, ops[j]? = some oj ∧ oj.apart ops oi = true) → runD E ops ms base K (pre ++ i :: post) s acc →
    ∃ x, exec E ops base i s = some x ∧ (∀ p ∈ x.ps, p) ∧ (∀ f ∈ acc, footOk (maskAt ms i) x.rs x.ws f) ∧ runD E ops ms base K (pre ++ post) x.s acc
  | [], post, s, acc, _, h => by
    obtain ⟨x, h1, h2, h3, h4⟩ := runD_cons.1 h
    exact ⟨x, h1, h3, h2, runD_mono pushAcc_mem.1 h4⟩
  | j :: pre, post, s, acc, hpre, h => by
    obtain ⟨y, h1, h2, h3, h4⟩ := runD_cons.1 h
    obtain ⟨x, g1, g2, g3, g4⟩ := pull hoi (fun k hk => hpre k (List.mem_cons_of_mem _ hk)) h4
    obtain ⟨hbit, oj, hoj, hap⟩ := hpre j List.mem_cons_self
    obtain ⟨ap1, ap2, ap3⟩ := Oper.apart_spec hap
    rw [exec_eff hoj] at h1
    obtain ⟨ej, hej, hy⟩ := Option.map_eq_some_iff.1 h1
    subst hy
    simp only at *
    rw [exec_eff hoi] at g1
    obtain ⟨ei, hei, hx⟩ := Option.map_eq_some_iff.1 g1
    subst hx
    simp only at *
    have hfoot : (∀ n ∈ ej.u.map Prod.fst, n ∉ ei.rs) ∧ (∀ n ∈ ej.u.map Prod.fst, n ∉ ei.u.map Prod.fst) ∧ ∀ n ∈ ei.u.map Prod.fst, n ∉ ej.rs := by
      rcases (pushAcc_mem (i := j) (R := ej.rs) (W := ej.u.map Prod.fst) (acc := acc)).2 with h | ⟨hr, hw⟩
      · have := g3 _ h
        unfold footOk at this
        simp only at this
        rw [hbit] at this
        exact this.resolve_left (by simp)
      · rw [hr, hw]
        exact ⟨fun n h => (by cases h), fun n h => (by cases h), fun n _ h => (by cases h)⟩
    obtain ⟨f1, f2, f3⟩ := hfoot
    have hei' : effOf E ops base i oi s = some ei := eff_unapp (p := oj) ap1 hei fun n hn hn' => f1 n hn' hn
    have hej' : effOf E ops base j oj (ei.app oi.dst s) = some ej := eff_app (p := oi) ap3 hej fun n hn hn' => f3 n hn' hn
    have hsw : ei.app oi.dst (ej.app oj.dst s) = ej.app oj.dst (ei.app oi.dst s) := app_swap ap2 f2
    refine ⟨⟨ei.ps, ei.app oi.dst s, ei.rs, ei.u.map Prod.fst⟩, by rw [exec_eff hoi, hei']; rfl, g2, fun f hf => g3 f (pushAcc_mem.1 f hf), ?_⟩
    refine runD_cons.2 ⟨⟨ej.ps, ej.app oj.dst (ei.app oi.dst s), ej.rs, ej.u.map Prod.fst⟩, by rw [exec_eff hoj, hej']; rfl, h2, h3, ?_⟩
    rw [hsw] at g4
    exact g4

/-- What is asked of a region that draws its order. -/
structure DrawOk (ops : Array Oper) (ms : List Nat) : Prop where
  edge : ∀ i o, ops[i]? = some o → ∀ e ∈ o.after.toList, Region.binds .any e = true → e.on < i
  apart : ∀ i j oi oj, ops[i]? = some oi → ops[j]? = some oj → j < i → bit (maskAt ms i) j = true ∨ oj.apart ops oi = true
  mask : ∀ i o, ops[i]? = some o → ∀ j, bit (maskAt ms i) j = true → ∃ e ∈ o.after.toList, Region.binds .any e = true ∧ (j = e.on ∨ bit (maskAt ms e.on) j = true)

theorem mask_listed (hd : DrawOk ops ms) {lst : Nat → Prop} (hcl : ∀ k o, lst k → ops[k]? = some o → ∀ e ∈ o.after.toList, Region.binds .any e = true → lst e.on) (hin : ∀ i, lst i → ∃ o, ops[i]? = some o) :
    ∀ n i, i ≤ n → ∀ o, ops[i]? = some o → (∀ e ∈ o.after.toList, Region.binds .any e = true → lst e.on) → ∀ j, bit (maskAt ms i) j = true → lst j
  | 0, i, hi, o, ho, hr, j, hb => by
    obtain ⟨e, he, hbe, _⟩ := hd.mask i o ho j hb
    have := hd.edge i o ho e he hbe
    omega
  | n + 1, i, hi, o, ho, hr, j, hb => by
    obtain ⟨e, he, hbe, h | h⟩ := hd.mask i o ho j hb
    · rw [h]
      exact hr e he hbe
    · have hlt := hd.edge i o ho e he hbe
      have hl := hr e he hbe
      obtain ⟨o', ho'⟩ := hin _ hl
      exact mask_listed hd hcl hin n e.on (by omega) o' ho' (hcl _ o' hl ho') j h

theorem getD_set {a : Array Bool} {i k : Nat} (hi : i < a.size) : (a.setIfInBounds i true).getD k true = (if k = i then true else a.getD k true) := by
  by_cases h : k = i
  · subst h
    simp [Array.getD_eq_getD_getElem?, hi]
  · simp [Array.getD_eq_getD_getElem?, Array.getElem?_setIfInBounds_ne (fun e => h e.symm), h]
theorem getD_set' {a : Array Bool} {i k : Nat} (hi : i < a.size) : (a.setIfInBounds i true).getD k false = (if k = i then true else a.getD k false) := by
  by_cases h : k = i
  · subst h
    simp [Array.getD_eq_getD_getElem?, hi]
  · simp [Array.getD_eq_getD_getElem?, Array.getElem?_setIfInBounds_ne (fun e => h e.symm), h]

theorem any_ok (hT : TOk P E) (hK : ∀ f k, findK E.K f = some k → CtrOk P f k) (hz : NoZ PV ops) (hd : DrawOk ops ms) : ∀ (fuel : Nat) (listed : Array Bool) (R : List Nat) {μ : Nat → Option Wh} {s : S} {a : Act} {w : World},
    listed.size = ops.size → R = (List.range ops.size).filter (fun i => !listed.getD i true) → fuel = R.length →
    (∀ k o, listed.getD k false = true → ops[k]? = some o → ∀ e ∈ o.after.toList, Region.binds .any e = true → listed.getD e.on false = true) →
    runD E ops ms base K R s [] → Sim B S0 PV w0 μ s.slots s.heap a w → (∀ i ∈ R, ∀ q, base + 8 * i ≤ q → q < base + 8 * i + 8 → μ q = none) →
    (∀ s' a' w' μ', Sim B S0 PV w0 μ' s'.slots s'.heap a' w' → K s' → (∀ q, (∀ i ∈ R, q < base + 8 * i ∨ base + 8 * i + 8 ≤ q) → μ' q = μ q) → Q .normal a' w') → wpAny P .any ops Q fuel listed a w
  | 0, listed, R, μ, s, a, w, hsz, hR, hf, hcl, hrun, hsim, hm, hn => by
    have hnil : R = [] := List.length_eq_zero_iff.1 hf.symm
    refine ⟨?_, ?_⟩
    · apply List.eq_nil_iff_forall_not_mem.2
      intro i hi
      unfold Region.ready at hi
      rw [List.mem_filter] at hi
      have : i ∈ R := by
        rw [hR, List.mem_filter]
        refine ⟨hi.1, ?_⟩
        have := hi.2
        simp only [Bool.and_eq_true] at this
        exact this.1
      rw [hnil] at this
      cases this
    · rw [hnil] at hrun
      exact hn s a w μ hsim hrun fun _ _ => rfl
  | fuel + 1, listed, R, μ, s, a, w, hsz, hR, hf, hcl, hrun, hsim, hm, hn => by
    have hsort : R.Pairwise (· < ·) := by
      rw [hR]
      exact List.Pairwise.filter _ List.pairwise_lt_range
    have hopt : ∀ i, i < ops.size → ∃ o, ops[i]? = some o := fun i hi => ⟨_, Array.getElem?_eq_getElem hi⟩
    have hmem : ∀ i, i ∈ R ↔ i < ops.size ∧ listed.getD i true = false := by
      intro i
      rw [hR, List.mem_filter, List.mem_range]
      simp
    have hfalse : ∀ i, i < ops.size → listed.getD i false = listed.getD i true := by
      intro i hi
      have : i < listed.size := by omega
      simp [Array.getD_eq_getD_getElem?, this]
    have hbig : ∀ i, listed.getD i false = true → i < ops.size := by
      intro i hi
      refine Nat.lt_of_not_le fun h => ?_
      have : listed[i]? = none := Array.getElem?_eq_none (by omega)
      simp [Array.getD_eq_getD_getElem?, this] at hi
    constructor
    · intro hnone
      exfalso
      cases hRR : R with
      | nil => rw [hRR] at hf; cases hf
      | cons m R' =>
        have hmR : m ∈ R := by rw [hRR]; exact List.mem_cons_self
        obtain ⟨hm1, hm2⟩ := (hmem m).1 hmR
        obtain ⟨o, ho⟩ := hopt m hm1
        have : m ∈ Region.ready .any ops listed := by
          unfold Region.ready
          rw [List.mem_filter, List.mem_range]
          refine ⟨hm1, ?_⟩
          rw [hm2, ho]
          simp only [Bool.not_false, Bool.true_and, Option.map_some, Option.getD_some, Array.all_eq_true_iff_forall_mem]
          intro e he
          cases hbe : Region.binds .any e with
          | false => rfl
          | true =>
            have hlt := hd.edge m o ho e (by simpa using he) hbe
            have : listed.getD e.on true = true := by
              cases hl : listed.getD e.on true with
              | true => rfl
              | false =>
                have hin : e.on ∈ R := (hmem e.on).2 ⟨by omega, hl⟩
                rw [hRR] at hin hsort
                rcases List.mem_cons.1 hin with h | h
                · omega
                · have := (List.pairwise_cons.1 hsort).1 _ h
                  omega
            rw [hfalse e.on (by omega), this]
            rfl
        rw [hnone] at this
        cases this
    · intro i hi
      unfold Region.ready at hi
      rw [List.mem_filter, List.mem_range] at hi
      obtain ⟨hi1, hi2⟩ := hi
      simp only [Bool.and_eq_true] at hi2
      obtain ⟨hi3, hi4⟩ := hi2
      obtain ⟨o, ho⟩ := hopt i hi1
      rw [ho] at hi4
      simp only [Option.map_some, Option.getD_some, Array.all_eq_true_iff_forall_mem] at hi4
      have hdeps : ∀ e ∈ o.after.toList, Region.binds .any e = true → listed.getD e.on false = true := by
        intro e he hbe
        have := hi4 e (by simpa using he)
        rw [hbe] at this
        simpa using this
      have hiR : i ∈ R := (hmem i).2 ⟨hi1, by simpa using hi3⟩
      obtain ⟨pre, post, hpp⟩ := List.append_of_mem hiR
      have hlt : ∀ j ∈ pre, j < i := by
        rw [hpp] at hsort
        intro j hj
        exact (List.pairwise_append.1 hsort).2.2 j hj i List.mem_cons_self
      have hgt : ∀ j ∈ post, i < j := by
        rw [hpp] at hsort
        intro j hj
        exact (List.pairwise_cons.1 (List.pairwise_append.1 hsort).2.1).1 j hj
      rw [hpp] at hrun
      obtain ⟨x, h1, h2, _, h4⟩ := pull ho (fun j hj => by
        have hjR : j ∈ R := by rw [hpp]; exact List.mem_append_left _ hj
        obtain ⟨hj1, hj2⟩ := (hmem j).1 hjR
        have hbit : bit (maskAt ms i) j = false := by
          cases hb : bit (maskAt ms i) j with
          | false => rfl
          | true =>
            have := mask_listed hd (lst := fun k => listed.getD k false = true) hcl (fun k hk => hopt k (hbig k hk)) i i (Nat.le_refl _) o ho hdeps j hb
            rw [hfalse j hj1, hj2] at this
            cases this
        obtain ⟨oj, hoj⟩ := hopt j hj1
        refine ⟨hbit, oj, hoj, ?_⟩
        rcases hd.apart i j o oj ho hoj (hlt j hj) with h | h
        · rw [hbit] at h; cases h
        · exact h) hrun
      have hR' : pre ++ post = (List.range ops.size).filter (fun k => !(listed.setIfInBounds i true).getD k true) := by
        have e1 : (List.range ops.size).filter (fun k => !(listed.setIfInBounds i true).getD k true) = R.filter (fun k => k != i) := by
          rw [hR, List.filter_filter]
          apply List.filter_congr
          intro k _
          rw [getD_set (by omega)]
          by_cases h : k = i <;> simp [h]
        rw [e1, hpp, List.filter_append, List.filter_cons]
        simp only [bne_self_eq_false, Bool.false_eq_true, if_false]
        congr 1
        · symm
          apply List.filter_eq_self.2
          intro j hj
          have := hlt j hj
          simp
          omega
        · symm
          apply List.filter_eq_self.2
          intro j hj
          have := hgt j hj
          simp
          omega
      have hsub : ∀ j ∈ pre ++ post, j ∈ R ∧ j ≠ i := by
        intro j hj
        rcases List.mem_append.1 hj with h | h
        · exact ⟨by rw [hpp]; exact List.mem_append_left _ h, by have := hlt j h; omega⟩
        · exact ⟨by rw [hpp]; exact List.mem_append_right _ (List.mem_cons_of_mem _ h), by have := hgt j h; omega⟩
      refine exec_ok hT hK hz hsim (hm i hiR) h1 h2 fun a' w' μ' hs' hμ => ?_
      refine any_ok hT hK hz hd fuel (listed.setIfInBounds i true) (pre ++ post) (by simp [hsz]) hR' (by rw [hpp] at hf; simp only [List.length_append, List.length_cons] at hf ⊢; omega) (fun k o' hk ho' e he hbe => ?_) h4 hs' (fun j hj q q1 q2 => ?_) (fun s'' a'' w'' μ'' hs'' hk hq => hn s'' a'' w'' μ'' hs'' hk fun q hq' => ?_)
      · rw [getD_set' (by omega)] at hk ⊢
        by_cases hki : k = i
        · subst hki
          rw [ho] at ho'
          cases ho'
          split
          · rfl
          · exact hdeps e he hbe
        · rw [if_neg hki] at hk
          split
          · rfl
          · exact hcl k o' hk ho' e he hbe
      · obtain ⟨hj1, hj2⟩ := hsub j hj
        rw [hμ q (by omega)]
        exact hm j hj1 q q1 q2
      · rw [hq q fun j hj => hq' j (hsub j hj).1]
        exact hμ q (hq' i hiR)
end
end Go.Proofs.YtaafjaibaaiigaaGreatDoor.Eng
/- Code, functions and their contracts. Written for this seat's proofs. -/
set_option linter.unusedVariables false
set_option linter.unusedSimpArgs false
namespace Go.Proofs.YtaafjaibaaiigaaGreatDoor.Eng
open Go Go.RowKit

/-- What can be checked of a region by reckoning. -/
noncomputable def regOk (ops : Array Oper) : Bool :=
  (List.range ops.size).all fun i => match ops[i]? with
    | some o => (o.after.toList.all fun e => !Region.binds .any e || decide (e.on < i)) &&
      (List.range i).all fun j => match ops[j]? with
        | some p => bit (maskAt (masks ops.toList []) i) j || p.apart ops o
        | none => true
    | none => true
noncomputable def codeOk (c : Code) : Bool :=
  Code.rec (motive := fun _ => Bool) true (fun _ ops draw => match draw with | true => regOk ops | false => true) (fun _ _ a b => a && b) (fun _ _ _ a b => a && b) (fun _ _ a => a) (fun _ a => a) (fun _ _ _ _ _ _ => true) (fun _ => true) (fun _ a => a) (fun _ => true) (fun _ => true) true (fun _ => true) c

section
variable {P : Program} {E : Env} {B : Zn} {S0 : Nat → Prop} {w0 : World} {PV : Option Pinned}

theorem bit_eq (m j : Nat) : bit m j = m.testBit j := by
  unfold bit
  show Nat.beq ((m >>> j) &&& 1) 1 = m.testBit j
  rw [Nat.and_one_is_mod, Nat.shiftRight_eq_div_pow, Nat.testBit_eq_decide_div_mod_eq]
  cases h : Nat.beq (m / 2 ^ j % 2) 1 with
  | true => rw [Nat.eq_of_beq_eq_true h]; rfl
  | false =>
    have : ¬ m / 2 ^ j % 2 = 1 := fun e => by rw [e] at h; cases h
    simp [this]

theorem maskOf_bit {acc : List Nat} : ∀ {es : List Edge} {j : Nat}, bit (maskOf es acc) j = true → ∃ e ∈ es, Region.binds .any e = true ∧ ∃ m, acc[e.on]? = some m ∧ (j = e.on ∨ bit m j = true)
  | [], j, h => by
    have : bit 0 j = true := h
    rw [bit_eq] at this
    simp at this
  | e :: es, j, h => by
    have h' : bit (match Region.binds .any e with
      | true => (match lget acc e.on with | some m => Nat.lor (Nat.lor (maskOf es acc) (Nat.shiftLeft 1 e.on)) m | none => maskOf es acc)
      | false => maskOf es acc) j = true := h
    have rest : bit (maskOf es acc) j = true → ∃ e' ∈ e :: es, Region.binds .any e' = true ∧ ∃ m, acc[e'.on]? = some m ∧ (j = e'.on ∨ bit m j = true) := by
      intro h
      obtain ⟨e', h1, h2⟩ := maskOf_bit h
      exact ⟨e', List.mem_cons_of_mem _ h1, h2⟩
    cases hb : Region.binds .any e with
    | false => rw [hb] at h'; exact rest h'
    | true =>
      rw [hb] at h'
      simp only at h'
      cases hm : lget acc e.on with
      | none => rw [hm] at h'; exact rest h'
      | some m =>
        rw [hm] at h'
        simp only at h'
        rw [bit_eq] at h'
        have h2 : ((maskOf es acc ||| (1 <<< e.on)) ||| m).testBit j = true := h'
        rw [Nat.testBit_or, Nat.testBit_or] at h2
        rw [lget_eq] at hm
        cases h3 : (maskOf es acc).testBit j with
        | true => exact rest (by rw [bit_eq]; exact h3)
        | false =>
          rw [h3] at h2
          cases h4 : m.testBit j with
          | true => exact ⟨e, List.mem_cons_self, hb, m, hm, Or.inr (by rw [bit_eq]; exact h4)⟩
          | false =>
            rw [h4] at h2
            simp only [Bool.false_or, Bool.or_false, Nat.testBit_shiftLeft] at h2
            refine ⟨e, List.mem_cons_self, hb, m, hm, Or.inl ?_⟩
            simp only [Bool.and_eq_true, decide_eq_true_eq] at h2
            obtain ⟨h5, h6⟩ := h2
            have : Nat.testBit 1 (j - e.on) = decide (j - e.on = 0) := by
              rw [show (1 : Nat) = 2 ^ 0 from rfl, Nat.testBit_two_pow]
              simp [eq_comm]
            rw [this] at h6
            simp only [decide_eq_true_eq] at h6
            omega

theorem masks_spec : ∀ (os : List Oper) (acc : List Nat), ∃ l, masks os acc = acc ++ l ∧ l.length = os.length ∧ ∀ (i : Nat) (o : Oper), os[i]? = some o → (masks os acc)[acc.length + i]? = some (maskOf o.after.toList ((masks os acc).take (acc.length + i)))
  | [], acc => ⟨[], by show acc = acc ++ []; simp, rfl, fun i o h => by simp at h⟩
  | o :: os, acc => by
    have e : masks (o :: os) acc = masks os (acc ++ [maskOf o.after.toList acc]) := by
      show natK (maskOf o.after.toList acc) (fun m => masks os (lapp acc [m])) = _
      rw [natK_eq, lapp_eq]
    obtain ⟨l, h1, h2, h3⟩ := masks_spec os (acc ++ [maskOf o.after.toList acc])
    refine ⟨maskOf o.after.toList acc :: l, by rw [e, h1]; simp, by simp [h2], fun i o' ho' => ?_⟩
    rw [e]
    cases i with
    | zero =>
      simp only [List.getElem?_cons_zero, Option.some.injEq] at ho'
      subst ho'
      rw [h1]
      simp
    | succ i =>
      have := h3 i o' (by simpa using ho')
      simp only [List.length_append, List.length_cons, List.length_nil] at this
      have e2 : acc.length + (0 + 1) + i = acc.length + (i + 1) := by omega
      rw [e2] at this
      exact this

theorem drawOk_of {ops : Array Oper} (h : regOk ops = true) : DrawOk ops (masks ops.toList []) := by
  unfold regOk at h
  rw [List.all_eq_true] at h
  have at_ : ∀ i o, ops[i]? = some o → (∀ e ∈ o.after.toList, Region.binds .any e = true → e.on < i) ∧ ∀ j oj, j < i → ops[j]? = some oj → bit (maskAt (masks ops.toList []) i) j = true ∨ oj.apart ops o = true := by
    intro i o ho
    have hi : i < ops.size := (Array.getElem?_eq_some_iff.1 ho).1
    have := h i (List.mem_range.2 hi)
    rw [ho] at this
    simp only [Bool.and_eq_true, List.all_eq_true] at this
    refine ⟨fun e he hb => ?_, fun j oj hj hoj => ?_⟩
    · have h1 := this.1 e he
      rw [hb] at h1
      simpa using h1
    · have h1 := this.2 j (List.mem_range.2 hj)
      rw [hoj] at h1
      simpa using h1
  refine ⟨fun i o ho => (at_ i o ho).1, fun i j oi oj hoi hoj hj => (at_ i oi hoi).2 j oj hj hoj, fun i o ho j hb => ?_⟩
  obtain ⟨l, h1, h2, h3⟩ := masks_spec ops.toList []
  have h4 := h3 i o (by rw [Array.getElem?_toList]; exact ho)
  simp only [List.length_nil, Nat.zero_add] at h4
  unfold maskAt at hb
  rw [lget_eq, h4] at hb
  obtain ⟨e, e1, e2, m, e3, e4⟩ := maskOf_bit hb
  refine ⟨e, e1, e2, e4.imp id fun h => ?_⟩
  rw [List.getElem?_take] at e3
  split at e3
  · unfold maskAt
    rw [lget_eq, e3]
    exact h
  · cases e3

theorem execD_iff {ops : Array Oper} {o : Oper} {mask b i : Nat} {sl : List AV} {hp : List (Nat × Ob)} {acc : Foot} {K : List AV → List (Nat × Ob) → Foot → Prop} :
    execD E o mask b i sl hp acc K ↔ ∃ r, (opR E o.op (o.op.operands.toList.map (evL sl)) b).run (hget hp) = some r ∧ okAcc mask ((opR E o.op (o.op.operands.toList.map (evL sl)) b).reads (hget hp)) (r.ups.map Prod.fst) acc = true ∧ (∀ p ∈ r.ps, p) ∧
      K (putL o.dst r.val sl) (hsets r.ups hp) (pushAcc i ((opR E o.op (o.op.operands.toList.map (evL sl)) b).reads (hget hp)) (r.ups.map Prod.fst) acc) := by
  unfold execD
  rw [evsK_eq]
  cases hr : (opR E o.op (o.op.operands.toList.map (evL sl)) b).run (hget hp) with
  | none => exact ⟨fun h => h.elim, fun ⟨r, h, _⟩ => by cases h⟩
  | some r =>
    simp only [bareN_eq, lmap_eq]
    cases hok : okAcc mask ((opR E o.op (o.op.operands.toList.map (evL sl)) b).reads (hget hp)) (r.ups.map Prod.fst) acc with
    | true =>
      simp only [bare2_eq, hsetsK_eq, putK_eq, pushK_eq, allP_iff]
      exact ⟨fun h => ⟨r, rfl, hok, h⟩, fun ⟨r', h, _, h2⟩ => by cases h; exact h2⟩
    | false =>
      refine ⟨fun h => h.elim, fun ⟨r', h, h2, _⟩ => ?_⟩
      cases h
      rw [hok] at h2
      cases h2

theorem walkD_run {ops : Array Oper} {ms : List Nat} {base : Nat} {K : List AV → List (Nat × Ob) → Nat → Prop} {nx : Nat} : ∀ (os : List Oper) (k : Nat) (sl : List AV) (hp : List (Nat × Ob)) (acc : Foot), ops.toList.drop k = os → walkD E ops K os (ms.drop k) k (base + 8 * k) sl hp acc →
    runD E ops ms base (fun s => ∃ hp', s.heap = hget hp' ∧ K s.slots hp' (base + 8 * (k + os.length))) ((List.range os.length).map (k + ·)) ⟨sl, hget hp, nx⟩ acc
  | [], k, sl, hp, acc, _, h => ⟨hp, rfl, h⟩
  | o :: os, k, sl, hp, acc, hd, h => by
    have hk : ops[k]? = some o := by
      have : (ops.toList.drop k)[0]? = some o := by rw [hd]; rfl
      rw [List.getElem?_drop] at this
      simpa using this
    have hd' : ops.toList.drop (k + 1) = os := by
      rw [← List.drop_drop, hd]
      rfl
    have e8 : base + 8 * k + 8 = base + 8 * (k + 1) := by omega
    have hlist : (List.range (o :: os).length).map (k + ·) = k :: (List.range os.length).map (k + 1 + ·) := by
      rw [List.length_cons, List.range_succ_eq_map, List.map_cons, List.map_map, Nat.add_zero]
      congr 1
      apply List.map_congr_left
      intro x _
      show k + (x + 1) = k + 1 + x
      omega
    have hlen : k + (o :: os).length = k + 1 + os.length := by simp; omega
    rw [hlist, hlen]
    have h' : natK (base + 8 * k + 8) (fun b' => natK (k + 1) fun i' => match ms.drop k with
      | [] => False
      | m :: ms => match o.guard with
        | none => execD E o m (base + 8 * k) k sl hp acc (walkD E ops K os ms i' b')
        | some (j, want) =>
          match (match lget ops.toList j with | some q => q.dst | none => none) with
          | some d => match lget sl d with
            | some (.bool c) => cond c
              (setK (.bool true) sl d fun sl => match want with
                | true => execD E o m (base + 8 * k) k sl hp acc (walkD E ops K os ms i' b')
                | false => putK o.dst (.tup []) sl fun sl => walkD E ops K os ms i' b' sl hp acc)
              (setK (.bool false) sl d fun sl => match want with
                | true => putK o.dst (.tup []) sl fun sl => walkD E ops K os ms i' b' sl hp acc
                | false => execD E o m (base + 8 * k) k sl hp acc (walkD E ops K os ms i' b'))
            | some (.tup []) => putK o.dst (.tup []) sl fun sl => walkD E ops K os ms i' b' sl hp acc
            | _ => False
          | none => False) := h
    rw [natK_eq, natK_eq, e8] at h'
    cases hms : ms.drop k with
    | nil => rw [hms] at h'; exact h'.elim
    | cons m ms' =>
      rw [hms] at h'
      simp only at h'
      have hms' : ms.drop (k + 1) = ms' := by
        rw [← List.drop_drop, hms]
        rfl
      have hmk : maskAt ms k = m := by
        have : (ms.drop k)[0]? = some m := by rw [hms]; rfl
        rw [List.getElem?_drop] at this
        unfold maskAt
        rw [lget_eq]
        simp only [Nat.add_zero] at this
        rw [this]
      have ih := fun sl hp acc => walkD_run (nx := nx) (ms := ms) (base := base) (K := K) os (k + 1) sl hp acc hd'
      rw [hms'] at ih
      have exe : execD E o m (base + 8 * k) k sl hp acc (walkD E ops K os ms' (k + 1) (base + 8 * (k + 1))) → ∃ r, (opR E o.op (o.op.operands.toList.map (S.ev ⟨sl, hget hp, nx⟩)) (base + 8 * k)).run (hget hp) = some r ∧
          (∀ f ∈ acc, footOk m ((opR E o.op (o.op.operands.toList.map (S.ev ⟨sl, hget hp, nx⟩)) (base + 8 * k)).reads (hget hp)) (r.ups.map Prod.fst) f) ∧ (∀ p ∈ r.ps, p) ∧
          runD E ops ms base (fun s => ∃ hp', s.heap = hget hp' ∧ K s.slots hp' (base + 8 * (k + 1 + os.length))) ((List.range os.length).map (k + 1 + ·)) { S.put ⟨sl, hget hp, nx⟩ o.dst r.val with heap := upds (hget hp) r.ups } (pushAcc k ((opR E o.op (o.op.operands.toList.map (S.ev ⟨sl, hget hp, nx⟩)) (base + 8 * k)).reads (hget hp)) (r.ups.map Prod.fst) acc) := by
        intro hx
        obtain ⟨r, h1, h2, h3, h4⟩ := (execD_iff (ops := ops)).1 hx
        rw [← evL_ev]
        refine ⟨r, h1, okAcc_iff.1 h2, h3, ?_⟩
        have := ih _ _ _ h4
        rw [put_slots, ← hget_hsets]
        exact this
      have skp : (putK o.dst (.tup []) sl fun sl => walkD E ops K os ms' (k + 1) (base + 8 * (k + 1)) sl hp acc) → runD E ops ms base (fun s => ∃ hp', s.heap = hget hp' ∧ K s.slots hp' (base + 8 * (k + 1 + os.length))) ((List.range os.length).map (k + 1 + ·)) (S.put ⟨sl, hget hp, nx⟩ o.dst (.tup [])) (pushAcc k [] [] acc) := by
        intro hx
        rw [putK_eq] at hx
        have := ih _ _ _ hx
        rw [put_slots]
        exact this
      have noFoot : ∀ f ∈ acc, footOk m [] [] f := fun f _ => Or.inr ⟨fun n _ h => (by cases h), fun n _ h => (by cases h), fun n h => (by cases h)⟩
      rw [runD_cons, hmk]
      unfold exec wantedOf
      rw [hk]
      simp only
      cases hg : o.guard with
      | none =>
        rw [hg] at h'
        obtain ⟨r, h1, h2, h3, h4⟩ := exe h'
        simp only [h1]
        exact ⟨_, rfl, h2, h3, h4⟩
      | some q =>
        obtain ⟨j, want⟩ := q
        rw [hg] at h'
        simp only at h' ⊢
        have hj : (match lget ops.toList j with | some q => q.dst | none => none) = (ops[j]?).bind (·.dst) := by
          rw [lget_eq]
          simp only [Array.getElem?_toList]
          cases ops[j]? <;> rfl
        rw [hj] at h'
        cases hd2 : (ops[j]?).bind (·.dst) with
        | none => rw [hd2] at h'; exact h'.elim
        | some d =>
          rw [hd2] at h'
          simp only at h'
          simp only [Option.bind_some]
          rw [← lget_eq]
          cases hv : lget sl d with
          | none => rw [hv] at h'; exact h'.elim
          | some v =>
            rw [hv] at h'
            cases v with
            | bool c =>
              simp only at h' ⊢
              cases c with
              | true =>
                simp only [cond_true, setK_eq] at h'
                rw [lset_same hv] at h'
                cases want with
                | true =>
                  obtain ⟨r, h1, h2, h3, h4⟩ := exe h'
                  simp only [BEq.rfl, h1]
                  exact ⟨_, rfl, h2, h3, h4⟩
                | false =>
                  simp only [show (true == false) = false from rfl]
                  exact ⟨_, rfl, noFoot, fun p hp => (by cases hp), skp h'⟩
              | false =>
                simp only [cond_false, setK_eq] at h'
                rw [lset_same hv] at h'
                cases want with
                | true =>
                  simp only [show (false == true) = false from rfl]
                  exact ⟨_, rfl, noFoot, fun p hp => (by cases hp), skp h'⟩
                | false =>
                  obtain ⟨r, h1, h2, h3, h4⟩ := exe h'
                  simp only [BEq.rfl, h1]
                  exact ⟨_, rfl, h2, h3, h4⟩
            | tup cs =>
              cases cs with
              | cons _ _ => exact h'.elim
              | nil => exact ⟨_, rfl, noFoot, fun p hp => (by cases hp), skp h'⟩
            | _ => exact h'.elim

/-- What an end of a piece of code tells of the model's. -/
def Post (B : Zn) (S0 : Nat → Prop) (PV : Option Pinned) (w0 : World) (Q : Exit → SL → Prop) (R : Exit → Act → World → Prop) : Prop :=
  ∀ (e : Exit) (s : SL) (a : Act) (w : World) (μ : Nat → Option Wh), Q e s → Sim B S0 PV w0 μ s.slots (hget s.heap) a w → (∀ q, s.next ≤ q → μ q = none) → R e a w

theorem region_ok (hT : TOk P E) (hK : ∀ f k, findK E.K f = some k → CtrOk P f k) (hmix : P.follows .mixedOrders = true) {id : Nat} {ops : Array Oper} {draw : Bool} (hc : draw = true → regOk ops = true) (hz : NoZ PV ops) {Q : Exit → SL → Prop} {R : Exit → Act → World → Prop} (hpost : Post B S0 PV w0 Q R)
    {s : SL} {a : Act} {w : World} {μ : Nat → Option Wh} (hsim : Sim B S0 PV w0 μ s.slots (hget s.heap) a w) (hm : ∀ q, s.next ≤ q → μ q = none) (h : den E (.region id ops draw) s Q) : (Code.region id ops draw).wp P R a w := by
  obtain ⟨sl, hp, n⟩ := s
  have hlen : ops.toList.length = ops.size := by simp
  have end_ : ∀ (s' : S) (a' : Act) (w' : World) (μ0 μ' : Nat → Option Wh), (∀ q, n ≤ q → μ0 q = none) → Sim B S0 PV w0 μ' s'.slots s'.heap a' w' → (∃ hp', s'.heap = hget hp' ∧ Q .normal ⟨s'.slots, hp', n + 8 * (0 + ops.toList.length)⟩) → (∀ q, (∀ i ∈ List.range ops.size, q < n + 8 * i ∨ n + 8 * i + 8 ≤ q) → μ' q = μ0 q) → R .normal a' w' := by
    rintro s' a' w' μ0 μ' h0 hs' ⟨hp', h1, h2⟩ hq
    refine hpost .normal _ a' w' μ' h2 (by rw [← h1]; exact hs') fun q hq' => ?_
    have hq'' : n + 8 * (0 + ops.toList.length) ≤ q := hq'
    rw [hq q fun i hi => ?_]
    · exact h0 q (by omega)
    · have := List.mem_range.1 hi
      omega
  cases draw with
  | false =>
    have h' : walkOps E ops (fun sl hp b => Q .normal ⟨sl, hp, b⟩) ops.toList (n + 8 * 0) sl hp := h
    have hr := walk_run (nx := n) ops.toList 0 sl hp (by simp) h'
    have hl : (List.range ops.toList.length).map (0 + ·) = List.range ops.size := by
      rw [hlen]
      conv => rhs; rw [← List.map_id (List.range ops.size)]
      apply List.map_congr_left
      intro x _
      exact Nat.zero_add x
    rw [hl] at hr
    refine wp_region (runL_ok hT hK hz _ List.nodup_range hr hsim (fun i _ q h1 h2 => hm q ?_) (fun s' a' w' μ' hs' hk hq => end_ s' a' w' μ μ' hm hs' hk hq))
    show n ≤ q
    omega
  | true =>
    have hd := drawOk_of (hc rfl)
    have h' : walkD E ops (fun sl hp b => Q .normal ⟨sl, hp, b⟩) ops.toList ((masks ops.toList []).drop 0) 0 (n + 8 * 0) sl hp [] := h
    have hr := walkD_run (nx := n) ops.toList 0 sl hp [] (by simp) h'
    have hl : (List.range ops.toList.length).map (0 + ·) = List.range ops.size := by
      rw [hlen]
      conv => rhs; rw [← List.map_id (List.range ops.size)]
      apply List.map_congr_left
      intro x _
      exact Nat.zero_add x
    rw [hl] at hr
    have hf : ∀ i, (Array.replicate ops.size false).getD i false = false := by
      intro i
      simp only [Array.getD_eq_getD_getElem?, Array.getElem?_replicate]
      split <;> rfl
    obtain ⟨hs1, k1⟩ := hsim.hs.drew
    have hsim' : Sim B S0 PV w0 μ sl (hget hp) a w.drew := ⟨hs1, RVs.mono k1 (fun _ _ h => h) _ _ hsim.vals, hsim.df, hsim.bel.trans (Bel.refl _ _).drew, hsim.gh.keep k1 (fun _ _ _ _ e => e)⟩
    refine wp_region_any hmix (any_ok hT hK hz hd ops.size (Array.replicate ops.size false) (List.range ops.size) (by simp) ?_ (by simp) (fun k o hk => ?_) hr hsim' (fun i _ q h1 h2 => hm q ?_) (fun s' a' w' μ' hs' hk hq => end_ s' a' w' μ μ' hm hs' hk hq))
    · symm
      apply List.filter_eq_self.2
      intro i hi
      have := List.mem_range.1 hi
      simp [Array.getD_eq_getD_getElem?, this]
    · rw [hf k] at hk
      cases hk
    · show n ≤ q
      omega
end
end Go.Proofs.YtaafjaibaaiigaaGreatDoor.Eng
/- States at the heads of loops: what is forgotten, and what is called anew. Written for this seat's proofs. -/
set_option linter.unusedVariables false
set_option linter.unusedSimpArgs false
namespace Go.Proofs.YtaafjaibaaiigaaGreatDoor.Eng
open Go Go.RowKit

section
variable {P : Program} {E : Env} {B : Zn} {S0 : Nat → Prop} {w0 : World} {PV : Option Pinned}

theorem idx_some {n : Nat} : ∀ {L : List Nat} {i : Nat}, idx n L = some i → L[i]? = some n
  | [], i, h => by cases h
  | m :: L, i, h => by
    have h' : (match Nat.beq n m with
      | true => some 0
      | false => match idx n L with | some i => some (i + 1) | none => none) = some i := h
    cases hb : Nat.beq n m with
    | true =>
      rw [hb] at h'
      cases h'
      rw [Nat.eq_of_beq_eq_true hb]
      rfl
    | false =>
      rw [hb] at h'
      simp only at h'
      cases hi : idx n L with
      | none => rw [hi] at h'; cases h'
      | some j =>
        rw [hi] at h'
        cases h'
        simpa using idx_some hi

theorem renC_ok {St : Nat → Prop} {w : World} {μ μ' : Nat → Option Wh} {L : List Nat} (hμ : ∀ i h, L[i]? = some h → μ' i = μ h) : ∀ {c : AV} {v : Value}, RV St w μ c v → RV St w μ' (renC L c) v := by
  intro c v hv
  cases c with
  | own h =>
    show RV St w μ' (match idx h L with | some i => .own i | none => .undef) v
    cases hi : idx h L with
    | none => trivial
    | some i =>
      obtain ⟨m, h1, h2⟩ := hv
      exact ⟨m, by rw [hμ i h (idx_some hi)]; exact h1, h2⟩
  | ptr h i c =>
    show RV St w μ' (match idx h L with | some q => .ptr q i c | none => .undef) v
    cases hi : idx h L with
    | none => trivial
    | some q =>
      obtain ⟨m, b, o, h1, h2⟩ := hv
      exact ⟨m, b, o, by rw [hμ q h (idx_some hi)]; exact h1, h2⟩
  | mp h =>
    show RV St w μ' (match idx h L with | some i => .mp i | none => .undef) v
    cases hi : idx h L with
    | none => trivial
    | some i =>
      obtain ⟨m, b, h1, h2⟩ := hv
      exact ⟨m, b, by rw [hμ i h (idx_some hi)]; exact h1, h2⟩
  | fn f cs =>
    cases cs with
    | nil => exact hv
    | cons _ _ => trivial
  | agg _ => trivial
  | tup _ => trivial
  | undef => trivial
  | pre _ _ => trivial
  | suf _ _ => trivial
  | int _ _ => exact hv
  | bool _ => exact hv
  | str _ => exact hv
  | sl _ _ => exact hv
  | nsl _ _ => exact hv
  | nilsl => exact hv
  | eptr _ _ _ => exact hv
  | nilp => exact hv
  | nilmp => exact hv
theorem renCs_ok {St : Nat → Prop} {w : World} {μ μ' : Nat → Option Wh} {L : List Nat} (hμ : ∀ i h, L[i]? = some h → μ' i = μ h) : ∀ {cs : List AV} {vs : List Value}, RVs St w μ cs vs → RVs St w μ' (lmap (renC L) cs) vs := by
  intro cs
  rw [lmap_eq]
  induction cs with
  | nil => exact fun h => h
  | cons c cs ih =>
    rintro vs ⟨u, us, rfl, h1, h2⟩
    exact ⟨u, us, rfl, renC_ok hμ h1, ih h2⟩
theorem renV_ok {St : Nat → Prop} {w : World} {μ μ' : Nat → Option Wh} {L : List Nat} (hμ : ∀ i h, L[i]? = some h → μ' i = μ h) {c : AV} {v : Value} (hv : RV St w μ c v) : RV St w μ' (renV L c) v := by
  unfold renV
  split
  · obtain ⟨vs, rfl, h⟩ := hv
    exact ⟨vs, rfl, renCs_ok hμ h⟩
  · obtain ⟨vs, rfl, h⟩ := hv
    exact ⟨vs, rfl, renCs_ok hμ h⟩
  · obtain ⟨vs, rfl, h⟩ := hv
    exact ⟨vs, rfl, renCs_ok hμ h⟩
  · exact renC_ok hμ hv
theorem renVs_ok {St : Nat → Prop} {w : World} {μ μ' : Nat → Option Wh} {L : List Nat} (hμ : ∀ i h, L[i]? = some h → μ' i = μ h) : ∀ {cs : List AV} {vs : List Value}, RVs St w μ cs vs → RVs St w μ' (lmap (renV L) cs) vs := by
  intro cs
  rw [lmap_eq]
  induction cs with
  | nil => exact fun h => h
  | cons c cs ih =>
    rintro vs ⟨u, us, rfl, h1, h2⟩
    exact ⟨u, us, rfl, renV_ok hμ h1, ih h2⟩
theorem TabR.ren {St : Nat → Prop} {w : World} {μ μ' : Nat → Option Wh} {L : List Nat} (hμ : ∀ i h, L[i]? = some h → μ' i = μ h) {t : Ty} {n c : Nat} {xss : List (List t.D)} {act : Option (Option Nat)} {vs : Array Value} (r : TabR B St μ w t n c xss act vs) :
    TabR B St μ' w t n c xss (renAct L act) vs := by
  have hne : renAct L act ≠ none → act ≠ none := by
    rintro h rfl
    exact h rfl
  refine ⟨r.cap, r.len, r.all, r.rows, fun a ha => ?_, fun i h1 h2 h3 => r.rest i h1 h2 fun h => h3 ?_, fun h => r.room (hne h)⟩
  · match act, r, ha with
    | some (some b), r, ha =>
      have hi : idx b L = some a := Option.some.inj (show some (idx b L) = some (some a) from ha)
      obtain ⟨m, h1, h2⟩ := r.ac b rfl
      exact ⟨m, by rw [hμ a b (idx_some hi)]; exact h1, h2⟩
    | some none, r, ha => cases ha
    | none, r, ha => cases ha
  · match act, h with
    | some (some b), _ => exact fun h => (by cases h)
    | some none, _ => exact fun h => (by cases h)
    | none, h => exact absurd rfl h
theorem TbxR.ren {μ μ' : Nat → Option Wh} {L : List Nat} (hμ : ∀ i h, L[i]? = some h → μ' i = μ h) {b : Nat} {act : Option (Option Nat)} {p v : Value} (r : TbxR μ b act p v) : TbxR μ' b (renAct L act) p v := by
  refine ⟨fun h => r.fresh ?_, fun g hg => ?_⟩
  · match act, h with
    | none, _ => rfl
    | some none, h => cases h
    | some (some a), h => cases h
  · match act, r, hg with
    | some (some a), r, hg =>
      have hi : idx a L = some g := Option.some.inj (show some (idx a L) = some (some g) from hg)
      obtain ⟨h1, m, h2, h3⟩ := r.used a rfl
      exact ⟨h1, m, by rw [hμ g a (idx_some hi)]; exact h2, h3⟩
    | some none, r, hg => cases hg
    | none, r, hg => cases hg
theorem keep_ok {St : Nat → Prop} {w : World} {μ : Nat → Option Wh} {keep : List Nat} : ∀ {cs : List AV} {vs : List Value} (i : Nat), RVs St w μ cs vs → RVs St w μ (keepSlots keep cs i) vs
  | [], vs, i, h => h
  | c :: cs, vs, i, h => by
    obtain ⟨u, us, rfl, h1, h2⟩ := h
    show RVs St w μ (match has i keep with | true => c :: keepSlots keep cs (i + 1) | false => .undef :: keepSlots keep cs (i + 1)) (u :: us)
    cases has i keep with
    | true => exact ⟨u, us, rfl, h1, keep_ok (i + 1) h2⟩
    | false => exact ⟨u, us, rfl, trivial, keep_ok (i + 1) h2⟩

theorem obsOf_get (H : List (Nat × Ob)) (L : List Nat) : ∀ (l : List Nat) (k q : Nat) (o : Ob), hget (obsOf H L l k) q = some o → ∃ i h ob, q = k + i ∧ l[i]? = some h ∧ idx h L = some q ∧ hget H h = some ob ∧ o = renO L ob
  | [], k, q, o, h => by cases h
  | h :: l, k, q, o, hq => by
    have rest : hget (obsOf H L l (k + 1)) q = some o → ∃ i h' ob, q = k + i ∧ (h :: l)[i]? = some h' ∧ idx h' L = some q ∧ hget H h' = some ob ∧ o = renO L ob := by
      intro hr
      obtain ⟨i, h', ob, e1, e2, e3⟩ := obsOf_get H L l (k + 1) q o hr
      exact ⟨i + 1, h', ob, by omega, by simpa using e2, e3⟩
    have hq' : hget (match idx h L with
      | some j => (match Nat.beq j k with
        | true => (match hget H h with
          | some o => (k, renO L o) :: obsOf H L l (k + 1)
          | none => obsOf H L l (k + 1))
        | false => obsOf H L l (k + 1))
      | none => obsOf H L l (k + 1)) q = some o := hq
    cases hi : idx h L with
    | none => rw [hi] at hq'; exact rest hq'
    | some j =>
      rw [hi] at hq'
      simp only at hq'
      cases hb : Nat.beq j k with
      | false => rw [hb] at hq'; exact rest hq'
      | true =>
        rw [hb] at hq'
        simp only at hq'
        cases ho : hget H h with
        | none => rw [ho] at hq'; exact rest hq'
        | some ob =>
          rw [ho] at hq'
          simp only at hq'
          have e : hget ((k, renO L ob) :: obsOf H L l (k + 1)) q = (match Nat.beq q k with | true => some (renO L ob) | false => hget (obsOf H L l (k + 1)) q) := rfl
          rw [e] at hq'
          cases hqk : Nat.beq q k with
          | true =>
            rw [hqk] at hq'
            cases hq'
            have := Nat.eq_of_beq_eq_true hqk
            have h2 := Nat.eq_of_beq_eq_true hb
            exact ⟨0, h, ob, by omega, rfl, by rw [hi, h2, this], ho, rfl⟩
          | false =>
            rw [hqk] at hq'
            exact rest hq'

theorem canonAt_ok {μ : Nat → Option Wh} {s : SL} {a : Act} {w : World} (hnm : ∀ p, PV = some p → p.nm = []) (h : Sim B S0 PV w0 μ s.slots (hget s.heap) a w) (L keep : List Nat) :
    ∃ μ', Sim B S0 PV w0 μ' (canonAt L keep s).slots (hget (canonAt L keep s).heap) a w ∧ ∀ q, (canonAt L keep s).next ≤ q → μ' q = none := by
  let μ' : Nat → Option Wh := fun i => (L[i]?).bind μ
  have hμ : ∀ i h, L[i]? = some h → μ' i = μ h := by
    intro i h hi
    show (L[i]?).bind μ = μ h
    rw [hi]
    rfl
  have hob : ∀ q o, hget (obsOf s.heap L L 0) q = some o → ∃ h ob, L[q]? = some h ∧ idx h L = some q ∧ hget s.heap h = some ob ∧ o = renO L ob := by
    intro q o hq
    obtain ⟨i, h, ob, e1, e2, e3, e4, e5⟩ := obsOf_get s.heap L L 0 q o hq
    exact ⟨h, ob, idx_some e3, e3, e4, e5⟩
  have hlive : ∀ q, hget (obsOf s.heap L L 0) q ≠ none → ∃ h, L[q]? = some h ∧ idx h L = some q ∧ hget s.heap h ≠ none := by
    intro q hq
    cases ho : hget (obsOf s.heap L L 0) q with
    | none => exact absurd ho hq
    | some o =>
      obtain ⟨h, ob, e1, e2, e3, _⟩ := hob q o ho
      exact ⟨h, e1, e2, by rw [e3]; simp⟩
  have hblk : ∀ q h, L[q]? = some h → blk μ' q = blk μ h := by
    intro q h hq
    unfold blk
    rw [hμ q h hq]
  have kp : Keeps (Stb B S0 μ (hget s.heap) w) (Stb B S0 μ' (hget (obsOf s.heap L L 0)) w) w w := by
    refine keeps_of (Nat.le_refl _) (fun _ _ _ => rfl) ?_
    rintro b ⟨q, hq, hb⟩ _
    obtain ⟨h, e1, _, e3⟩ := hlive q hq
    rw [hblk q h e1] at hb
    exact ⟨h, e3, hb⟩
  refine ⟨μ', ⟨⟨h.hs.s0, h.hs.bsz, fun q o hq => ?_, fun q q' b h1 h2 b1 b2 => ?_⟩, ?_, h.df, h.bel, h.gh.keep kp (fun p hp q hq e => by rw [hnm p hp] at hq; cases hq)⟩, fun q hq => ?_⟩
  · obtain ⟨g, ob, e1, e2, e3, rfl⟩ := hob q o hq
    have := h.hs.obj g ob e3
    cases ob with
    | box cs =>
      obtain ⟨b, vs, e, g1, g2, g3, g4⟩ := this
      refine ⟨b, vs, e, ?_, g2, g3, renVs_ok hμ (RVs.mono kp (fun _ _ h => h) _ _ g4)⟩
      rw [hμ q g e1, g1, lmap_eq, List.length_map]
    | arr t xs =>
      obtain ⟨m, g1, g2⟩ := this
      exact ⟨m, by rw [hμ q g e1]; exact g1, g2.mono kp fun _ _ => rfl⟩
    | mp kt vt es =>
      obtain ⟨b, ents, c, g1, g2, g3, g4⟩ := this
      exact ⟨b, ents, c, by rw [hμ q g e1]; exact g1, g2, g3, g4⟩
    | tab t n xss act =>
      obtain ⟨b, c, vs, e, g1, g2, g3, g4⟩ := this
      exact ⟨b, c, vs, e, by rw [hμ q g e1]; exact g1, g2, g3, (g4.mono kp fun _ _ h => h).ren hμ⟩
    | tbx T act =>
      obtain ⟨b, p, v, g1, g2, g3, g4⟩ := this
      exact ⟨b, p, v, by rw [hμ q g e1]; exact g1, g2, g3, g4.ren hμ⟩
    | trow e xs =>
      obtain ⟨b, c, cs, g1, g2, g3, g4⟩ := this
      exact ⟨b, c, cs, by rw [hμ q g e1]; exact g1, g2, g3, g4⟩
  · obtain ⟨g, e1, e2, e3⟩ := hlive q h1
    obtain ⟨g', f1, f2, f3⟩ := hlive q' h2
    rw [hblk q g e1] at b1
    rw [hblk q' g' f1] at b2
    have := h.hs.sep g g' b e3 f3 b1 b2
    subst this
    rw [e2] at f2
    exact Option.some.inj f2
  · exact renVs_ok hμ (keep_ok 0 (RVs.mono kp (fun _ _ h => h) _ _ h.vals))
  · show (L[q]?).bind μ = none
    have : L.length ≤ q := by
      have : llen L ≤ q := hq
      rwa [llen_eq] at this
    rw [List.getElem?_eq_none this]
    rfl

theorem fillNil_ok : ∀ (l : List (Nat × Ty)) {μ : Nat → Option Wh} {s : SL} {a : Act} {w : World}, Sim B S0 PV w0 μ s.slots (hget s.heap) a w → (∀ q, s.next ≤ q → μ q = none) →
    ∃ μ', Sim B S0 PV w0 μ' (fillNil l s).slots (hget (fillNil l s).heap) a w ∧ ∀ q, (fillNil l s).next ≤ q → μ' q = none
  | [], μ, s, a, w, h, hm => ⟨μ, h, hm⟩
  | (d, t) :: l, μ, s, a, w, h, hm => by
    have e : fillNil ((d, t) :: l) s = (match lget s.slots d with
      | some .nilsl => fillNil l ⟨lset (.own s.next) s.slots d, hset s.next s.heap (some (.arr t [])), s.next + 1⟩
      | _ => fillNil l s) := rfl
    rw [e]
    split
    · rename_i hd
      obtain ⟨hs', k⟩ := nilArr h.hs (hm s.next (Nat.le_refl _)) t
      have hx := more_ext (μ := μ) (h := s.next) ⟨none, t.size, 0, 0⟩ (hm s.next (Nat.le_refl _))
      rw [lget_eq] at hd
      obtain ⟨u, hu, hru⟩ := h.vals.get hd
      have hlset : (a.tmps.toList.set d u) = a.tmps.toList := by
        apply List.ext_getElem?
        intro i
        by_cases hi : d = i
        · subst hi
          rw [List.getElem?_set_self (List.getElem?_eq_some_iff.1 hu).1, hu]
        · rw [List.getElem?_set_ne hi]
      refine fillNil_ok l (μ := more μ s.next ⟨none, t.size, 0, 0⟩) ⟨?_, ?_, h.df, h.bel, by rw [hget_hset]; exact h.gh.keep k (fun _ _ _ _ e => hx _ _ e)⟩ (fun q hq => ?_)
      · rw [hget_hset]
        exact hs'
      · rw [hget_hset, lset_eq]
        have := (RVs.mono k hx _ _ h.vals).set d (c := .own s.next) (v := u) ⟨_, more_same _ _, hru⟩
        rw [hlset] at this
        exact this
      · have hq' : s.next + 1 ≤ q := hq
        rw [more_other _ (by omega)]
        exact hm q (by omega)
    · exact fillNil_ok l h hm

theorem fillNil2_ok : ∀ (l : List (Nat × Nat × Ty)) {μ : Nat → Option Wh} {s : SL} {a : Act} {w : World}, Sim B S0 PV w0 μ s.slots (hget s.heap) a w → (∀ q, s.next ≤ q → μ q = none) →
    ∃ μ', Sim B S0 PV w0 μ' (fillNil2 l s).slots (hget (fillNil2 l s).heap) a w ∧ ∀ q, (fillNil2 l s).next ≤ q → μ' q = none
  | [], μ, s, a, w, h, hm => ⟨μ, h, hm⟩
  | (d, c, t) :: l, μ, s, a, w, h, hm => by
    have e : fillNil2 ((d, c, t) :: l) s = (match lget s.slots d with
      | some (.ptr h _ _) => (match hget s.heap h with
        | some (.box cs) => (match lget cs c with
          | some .nilsl => fillNil2 l ⟨s.slots, hset h (hset s.next s.heap (some (.arr t []))) (some (.box (lset (.own s.next) cs c))), s.next + 1⟩
          | _ => fillNil2 l s)
        | _ => fillNil2 l s)
      | _ => fillNil2 l s) := rfl
    rw [e]
    split
    · rename_i h0 i0 c0 hd
      split
      · rename_i cs hb
        split
        · rename_i hc
          obtain ⟨hs1, k1⟩ := nilArr h.hs (hm s.next (Nat.le_refl _)) t
          have hx := more_ext (μ := μ) (h := s.next) ⟨none, t.size, 0, 0⟩ (hm s.next (Nat.le_refl _))
          have hne : h0 ≠ s.next := by
            rintro rfl
            have := h.hs.live (hm s.next (Nat.le_refl _))
            rw [hb] at this
            cases this
          have hb1 : upd (hget s.heap) s.next (some (.arr t [])) h0 = some (.box cs) := by rw [upd_other _ hne]; exact hb
          obtain ⟨b, vs, e', g1, g2, g3, g4⟩ := hs1.obj h0 _ hb1
          have hbk : blk (more μ s.next ⟨none, t.size, 0, 0⟩) h0 = some b := by unfold blk; rw [g1]; rfl
          rw [lget_eq] at hc
          obtain ⟨u, hu, hru⟩ := g4.get hc
          have hlset : vs.set c u = vs := by
            apply List.ext_getElem?
            intro i
            by_cases hi : c = i
            · subst hi
              rw [List.getElem?_set_self (List.getElem?_eq_some_iff.1 hu).1, hu]
            · rw [List.getElem?_set_ne hi]
          obtain ⟨hs2, k2⟩ := hs1.write (w' := w) (h := h0) (by rw [hb1]; simp) hbk (.box (lset (.own s.next) cs c)) rfl (fun _ _ => rfl) (fun k => by
            refine ⟨b, vs, e', ?_, g2, g3, ?_⟩
            · rw [g1, lset_eq, List.length_set]
            · have := (RVs.mono k (fun _ _ h => h) _ _ g4).set c (c := .own s.next) (v := u) ⟨_, more_same _ _, hru⟩
              rw [hlset, ← lset_eq] at this
              exact this)
          refine fillNil2_ok l (μ := more μ s.next ⟨none, t.size, 0, 0⟩) ⟨?_, ?_, h.df, h.bel, by rw [hget_hset, hget_hset]; exact h.gh.keep (k1.trans k2) (fun _ _ _ _ e => hx _ _ e)⟩ (fun q hq => ?_)
          · rw [hget_hset, hget_hset]
            exact hs2
          · rw [hget_hset, hget_hset]
            exact RVs.mono (k1.trans k2) hx _ _ h.vals
          · have hq' : s.next + 1 ≤ q := hq
            rw [more_other _ (by omega)]
            exact hm q (by omega)
        · exact fillNil2_ok l h hm
      · exact fillNil2_ok l h hm
    · exact fillNil2_ok l h hm

theorem canon_ok (a : Ann) (hnm : ∀ p, PV = some p → p.nm = []) {μ : Nat → Option Wh} {s : SL} {ac : Act} {w : World} (h : Sim B S0 PV w0 μ s.slots (hget s.heap) ac w) (hm : ∀ q, s.next ≤ q → μ q = none) :
    ∃ μ', Sim B S0 PV w0 μ' (canon a s).slots (hget (canon a s).heap) ac w ∧ ∀ q, (canon a s).next ≤ q → μ' q = none := by
  obtain ⟨μ1, h1, m1⟩ := fillNil_ok a.2.1 h hm
  obtain ⟨μ2, h2, m2⟩ := fillNil2_ok a.2.2 h1 m1
  exact canonAt_ok hnm h2 _ _
end
end Go.Proofs.YtaafjaibaaiigaaGreatDoor.Eng
/- Code against the model. Written for this seat's proofs. -/
set_option linter.unusedVariables false
set_option linter.unusedSimpArgs false
namespace Go.Proofs.YtaafjaibaaiigaaGreatDoor.Eng
open Go Go.RowKit

section
variable {P : Program} {E : Env} {B : Zn} {S0 : Nat → Prop} {w0 : World} {PV : Option Pinned}

theorem least {p : Nat → Prop} (h : ∃ n, p n) : ∃ n, p n ∧ ∀ m, p m → n ≤ m := by
  obtain ⟨n, hn⟩ := h
  induction n using Nat.strongRecOn with
  | _ n ih =>
    by_cases hx : ∃ m, m < n ∧ p m
    · obtain ⟨m, hm, hpm⟩ := hx
      exact ih m hm hpm
    · exact ⟨n, hn, fun m hm => Nat.le_of_not_lt fun hlt => hx ⟨m, hlt, hm⟩⟩

/-- No operation of a code writes a slot. -/
def noW (n : Nat) : Code → Bool
  | .region _ ops _ => ops.all fun o => match o.dst with | some t => !(Nat.beq t n) | none => true
  | .seq a b => noW n a && noW n b
  | .cond _ a b => noW n a && noW n b
  | .block _ a => noW n a
  | .loop a => noW n a
  | .scope a => noW n a
  | _ => true
def noZ (c : Code) : Bool := noW 0 c
/-- A code without loops. -/
def noL : Code → Bool
  | .seq a b => noL a && noL b
  | .cond _ a b => noL a && noL b
  | .block _ a => noL a
  | .loop _ => false
  | .scope a => noL a
  | _ => true
/-- Nothing is written to the pinned slots; names are pinned only where no loop is. -/
def Pz (PV : Option Pinned) (c : Code) : Prop := ∀ p, PV = some p → (∀ q ∈ p.1, noW q.1 c = true) ∧ (p.nm = [] ∨ noL c = true)
theorem Pz.none {c : Code} : Pz none c := fun p hp => by cases hp
theorem Pz.left {PV : Option Pinned} {c x y : Code} (e : ∀ n, noW n c = (noW n x && noW n y)) (e2 : noL c = (noL x && noL y)) (h : Pz PV c) : Pz PV x ∧ Pz PV y := by
  refine ⟨fun p hp => ?_, fun p hp => ?_⟩ <;> obtain ⟨h1, h2⟩ := h p hp
  · exact ⟨fun q hq => by have := h1 q hq; rw [e] at this; simp only [Bool.and_eq_true] at this; exact this.1, h2.imp id fun h => by rw [e2] at h; simp only [Bool.and_eq_true] at h; exact h.1⟩
  · exact ⟨fun q hq => by have := h1 q hq; rw [e] at this; simp only [Bool.and_eq_true] at this; exact this.2, h2.imp id fun h => by rw [e2] at h; simp only [Bool.and_eq_true] at h; exact h.2⟩
theorem noZ_ops {PV : Option Pinned} {id : Nat} {ops : Array Oper} {draw : Bool} (h : Pz PV (.region id ops draw)) : NoZ PV ops := by
  intro p hp q hq i o ho e
  have h' : (ops.all fun o => match o.dst with | some t => !(Nat.beq t q.1) | none => true) = true := (h p hp).1 q hq
  rw [Array.all_eq_true_iff_forall_mem] at h'
  have := h' o (Array.mem_of_getElem? ho)
  rw [e] at this
  have hb : Nat.beq q.1 q.1 = true := Nat.beq_refl q.1
  simp [hb] at this
theorem den_ok (hT : TOk P E) (hK : ∀ f k, findK E.K f = some k → CtrOk P f k) (hmix : P.follows .mixedOrders = true) : ∀ (c : Code), codeOk c = true → Pz PV c → ∀ {Q : Exit → SL → Prop} {R : Exit → Act → World → Prop}, Post B S0 PV w0 Q R →
    ∀ {s : SL} {a : Act} {w : World} {μ : Nat → Option Wh}, Sim B S0 PV w0 μ s.slots (hget s.heap) a w → (∀ q, s.next ≤ q → μ q = none) → den E c s Q → c.wp P R a w := by
  intro c
  induction c with
  | skip => exact fun _ _ Q R hp s a w μ h hm hd => wp_skip (hp .normal s a w μ hd h hm)
  | region id ops draw => exact fun hc hz Q R hp s a w μ h hm hd => region_ok hT hK hmix (fun e => by subst e; exact hc) (noZ_ops hz) hp h hm hd
  | seq x y ihx ihy =>
    intro hc hz Q R hp s a w μ h hm hd
    have hc' : (codeOk x && codeOk y) = true := hc
    simp only [Bool.and_eq_true] at hc'
    obtain ⟨hz1, hz2⟩ := Pz.left (x := x) (y := y) (fun _ => rfl) rfl hz
    refine wp_seq (ihx hc'.1 hz1 (Q := thenK (fun s' => den E y s' Q) Q) (fun e s' a' w' μ' hq h' hm' => ?_) h hm hd)
    cases e with
    | normal => exact ihy hc'.2 hz2 hp h' hm' hq
    | exit id => exact hp _ s' a' w' μ' hq h' hm'
    | goto l => exact hp _ s' a' w' μ' hq h' hm'
    | ret => exact hp _ s' a' w' μ' hq h' hm'
    | panic ch => exact hp _ s' a' w' μ' hq h' hm'
    | outgrown => exact hp _ s' a' w' μ' hq h' hm'
  | cond o x y ihx ihy =>
    intro hc hz Q R hp s a w μ h hm hd
    have hc' : (codeOk x && codeOk y) = true := hc
    simp only [Bool.and_eq_true] at hc'
    obtain ⟨hz1, hz2⟩ := Pz.left (x := x) (y := y) (fun _ => rfl) rfl hz
    have hd' : condK (evL s.slots o) (den E x s Q) (den E y s Q) := hd
    have hev : RV _ w μ (evL s.slots o) (a.eval o) := Sim.ev (s := ⟨s.slots, hget s.heap, s.next⟩) h o
    unfold condK at hd'
    split at hd'
    · rename_i t ht
      rw [ht] at hev
      refine wp_cond (t := t) hev ?_
      cases t with
      | true => exact ihx hc'.1 hz1 hp h hm hd'
      | false => exact ihy hc'.2 hz2 hp h hm hd'
    · exact hd'.elim
  | block id x ih =>
    intro hc hz Q R hp s a w μ h hm hd
    refine wp_block (ih hc hz (Q := outK id Q) (fun e s' a' w' μ' hq h' hm' => ?_) h hm hd)
    cases e with
    | exit j =>
      have hq' : (match Nat.beq j id with | true => Q .normal s' | false => Q (.exit j) s') := hq
      show if j = id then R .normal a' w' else R (.exit j) a' w'
      cases hb : Nat.beq j id with
      | true =>
        rw [hb] at hq'
        rw [if_pos (Nat.eq_of_beq_eq_true hb)]
        exact hp _ s' a' w' μ' hq' h' hm'
      | false =>
        rw [hb] at hq'
        rw [if_neg (fun e => by rw [e, Nat.beq_refl] at hb; cases hb)]
        exact hp _ s' a' w' μ' hq' h' hm'
    | normal => exact hp _ s' a' w' μ' hq h' hm'
    | goto l => exact hp _ s' a' w' μ' hq h' hm'
    | ret => exact hp _ s' a' w' μ' hq h' hm'
    | panic ch => exact hp _ s' a' w' μ' hq h' hm'
    | outgrown => exact hp _ s' a' w' μ' hq h' hm'
  | loop x ih =>
    intro hc hz Q R hp s a w μ h hm hd
    have hd' : (match E.ann (firstId x) with
      | some an => LoopP E x (den E x) an Q s
      | none => False) := hd
    split at hd'
    · rename_i an _
      let I : Nat → Act → World → Prop := fun n a w => ∃ s μ, iter (fun s K => canonK an s fun s => den E x s K) Q n s ∧ Sim B S0 PV w0 μ s.slots (hget s.heap) a w ∧ ∀ q, s.next ≤ q → μ q = none
      have hI : ∀ a w, ∃ m, (∃ n, I n a w) → (I m a w ∧ ∀ n, I n a w → m ≤ n) := by
        intro a w
        by_cases hx : ∃ n, I n a w
        · obtain ⟨m, h1, h2⟩ := least hx
          exact ⟨m, fun _ => ⟨h1, h2⟩⟩
        · exact ⟨0, fun h => absurd h hx⟩
      refine wp_loop (fun a w => ∃ n, I n a w) (fun a w => Classical.choose (hI a w)) (by obtain ⟨⟨n, hn⟩⟩ := hd'; exact ⟨n, s, μ, hn, h, hm⟩) fun a1 w1 hx => ?_
      obtain ⟨⟨s1, μ1, hit, hs1, hm1⟩, hmin⟩ := Classical.choose_spec (hI a1 w1) hx
      generalize hmm : Classical.choose (hI a1 w1) = m at *
      cases m with
      | zero => exact hit.elim
      | succ m =>
        have hit' : canonK an s1 (fun s => den E x s fun e s' => match e with
          | .normal => iter (fun s K => canonK an s fun s => den E x s K) Q m s'
          | e => Q e s') := hit
        rw [canonK_eq] at hit'
        obtain ⟨μ2, hs2, hm2⟩ := canon_ok an (fun p hp => (hz p hp).2.elim id fun h => by cases h) hs1 hm1
        refine ih hc (fun p hp => ⟨(hz p hp).1, Or.inl ((hz p hp).2.elim id fun h => by cases h)⟩) (Q := fun e s' => match e with
          | .normal => iter (fun s K => canonK an s fun s => den E x s K) Q m s'
          | e => Q e s') (fun e s' a' w' μ' hq h' hm' => ?_) hs2 hm2 hit'
        cases e with
        | normal =>
          have hIm : I m a' w' := ⟨s', μ', hq, h', hm'⟩
          refine ⟨⟨m, hIm⟩, ?_⟩
          have := (Classical.choose_spec (hI a' w') ⟨m, hIm⟩).2 m hIm
          show Classical.choose (hI a' w') < m + 1
          omega
        | exit id => exact hp _ s' a' w' μ' hq h' hm'
        | goto l => exact hp _ s' a' w' μ' hq h' hm'
        | ret => exact hp _ s' a' w' μ' hq h' hm'
        | panic ch => exact hp _ s' a' w' μ' hq h' hm'
        | outgrown => exact hp _ s' a' w' μ' hq h' hm'
    · exact hd'.elim
  | exit id => exact fun _ _ Q R hp s a w μ h hm hd => wp_exit (hp (.exit id) s a w μ hd h hm)
  | ret => exact fun _ _ Q R hp s a w μ h hm hd => wp_ret (hp .ret s a w μ hd h hm)
  | rangeFunc _ _ _ _ _ _ => exact fun _ _ Q R hp s a w μ h hm hd => (hd : False).elim
  | scope x ih =>
    intro hc hz Q R hp s a w μ h hm hd
    refine wp_scope_straight (ih hc hz (Q := noGotoK Q) (fun e s' a' w' μ' hq h' hm' => ?_) h hm hd)
    cases e with
    | exit j => exact hp _ s' a' w' μ' hq h' hm'
    | normal => exact hp _ s' a' w' μ' hq h' hm'
    | goto l => exact hq.elim
    | ret => exact hp _ s' a' w' μ' hq h' hm'
    | panic ch => exact hp _ s' a' w' μ' hq h' hm'
    | outgrown => exact hp _ s' a' w' μ' hq h' hm'
  | label l => exact fun _ _ Q R hp s a w μ h hm hd => wp_label (hp .normal s a w μ hd h hm)
  | goto _ => exact fun _ _ Q R hp s a w μ h hm hd => (hd : False).elim
  | refuse _ => exact fun _ _ Q R hp s a w μ h hm hd => (hd : False).elim
end
end Go.Proofs.YtaafjaibaaiigaaGreatDoor.Eng
