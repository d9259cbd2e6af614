/- An abstract run of a function's code, without memory, and that each operation of the model does what it says (one). -/
import Derived.Below
import Derived.Laws.CopyRow
import Derived.Laws.CopyOwn
import Derived.Laws.NewBlocks
import Derived.Laws.Append
import Derived.Calls
import Derived.Laws.BytesArg
import Derived.OwnWalk
import Derived.ChangeKeysEq
import Derived.Laws.IdiomCopy
import Derived.Laws.StructEq
import Derived.Laws.MakeOwn
import Derived.Great.BuildSlice
set_option linter.unusedVariables false
set_option linter.unusedSimpArgs false
/- Values apart from memory: the kinds of data, the abstract values, and how they stand to the values of the model. Written for this seat's proofs. -/
set_option linter.unusedVariables false
set_option linter.unusedSimpArgs false
namespace Go.Proofs.YtaafjaibaaiigaaGreatDoor.Eng
open Go Go.RowKit

/-- The kinds of data that need no memory of their own to be told: 'one' and 'fld' make structs (and lists of arguments). -/
inductive Ty where
  | int (k : IntKind)
  | bool
  | str
  | sl (t : Ty)
  | one (a : Ty)
  | fld (a r : Ty)

/-- Told by recursors, not by matching: so that Lean's elaborator and its kernel unfold them alike. -/
noncomputable def Ty.D (t : Ty) : Type :=
  Ty.rec (motive := fun _ => Type) (fun _ => Int) Bool ByteArray (fun _ d => List d) (fun _ d => d) (fun _ _ d e => d × e) t
noncomputable def Ty.size (t : Ty) : Nat :=
  Ty.rec (motive := fun _ => Nat) (fun _ => 1) 1 1 (fun _ _ => 1) (fun _ n => n) (fun _ _ n m => n + m) t
noncomputable def Ty.dflt (t : Ty) : t.D :=
  Ty.rec (motive := fun t => t.D) (fun _ => (0 : Int)) false ByteArray.empty (fun _ _ => []) (fun _ x => x) (fun _ _ x y => (x, y)) t

theorem Ty.size_int {k : IntKind} : (Ty.int k).size = 1 := rfl
theorem Ty.size_bool : Ty.bool.size = 1 := rfl
theorem Ty.size_str : Ty.str.size = 1 := rfl
theorem Ty.size_sl {t : Ty} : (Ty.sl t).size = 1 := rfl
theorem Ty.size_one {t : Ty} : (Ty.one t).size = t.size := rfl
theorem Ty.size_fld {a r : Ty} : (Ty.fld a r).size = a.size + r.size := rfl
theorem Ty.size_pos : ∀ t : Ty, 0 < t.size
  | .int _ => Nat.one_pos
  | .bool => Nat.one_pos
  | .str => Nat.one_pos
  | .sl _ => Nat.one_pos
  | .one a => a.size_pos
  | .fld a r => Nat.lt_of_lt_of_le a.size_pos (Nat.le_add_right _ _)

def kn : IntKind → Nat
  | .i8 => 0 | .i16 => 1 | .i32 => 2 | .i64 => 3 | .u8 => 4 | .u16 => 5 | .u32 => 6 | .u64 => 7
theorem kn_inj : ∀ {a b : IntKind}, kn a = kn b → a = b := by intro a b; cases a <;> cases b <;> simp [kn]
def kEq (a b : IntKind) : Option (PLift (a = b)) := match h : Nat.beq (kn a) (kn b) with
  | true => some ⟨kn_inj (Nat.eq_of_beq_eq_true h)⟩
  | false => none
noncomputable def Ty.eqv (a : Ty) : (b : Ty) → Option (PLift (a = b)) :=
  Ty.rec (motive := fun a => (b : Ty) → Option (PLift (a = b)))
    (fun j b => match b with | .int k => (match kEq j k with | some ⟨h⟩ => some ⟨h ▸ rfl⟩ | none => none) | .bool => none | .str => none | .sl _ => none | .one _ => none | .fld _ _ => none)
    (fun b => match b with | .bool => some ⟨rfl⟩ | .int _ => none | .str => none | .sl _ => none | .one _ => none | .fld _ _ => none)
    (fun b => match b with | .str => some ⟨rfl⟩ | .int _ => none | .bool => none | .sl _ => none | .one _ => none | .fld _ _ => none)
    (fun _ ih b => match b with | .sl u => (match ih u with | some ⟨h⟩ => some ⟨h ▸ rfl⟩ | none => none) | .int _ => none | .bool => none | .str => none | .one _ => none | .fld _ _ => none)
    (fun _ ih b => match b with | .one u => (match ih u with | some ⟨h⟩ => some ⟨h ▸ rfl⟩ | none => none) | .int _ => none | .bool => none | .str => none | .sl _ => none | .fld _ _ => none)
    (fun _ _ ih jh b => match b with
      | .fld u q => (match ih u with
        | some ⟨h⟩ => (match jh q with | some ⟨g⟩ => some ⟨h ▸ g ▸ rfl⟩ | none => none)
        | none => none)
      | .int _ => none | .bool => none | .str => none | .sl _ => none | .one _ => none)
    a

/-- The zone of blocks in which new and own objects lie: from a block on, some of them left out. -/
structure Zn where
  n : Nat
  z : Nat → Prop
  le : ∀ b, z b → n ≤ b
def Zn.of (n : Nat) : Zn := ⟨n, fun b => n ≤ b, fun _ h => h⟩
/-- All blocks from here on are in the zone. -/
structure Zn.under (B : Zn) (k : Nat) : Prop where
  le : B.n ≤ k
  all : ∀ b, k ≤ b → B.z b
theorem Zn.under.grow {B : Zn} {k m : Nat} (h : B.under k) (hm : k ≤ m) : B.under m := ⟨Nat.le_trans h.le hm, fun b hb => h.all b (Nat.le_trans hm hb)⟩
theorem Zn.under.new {B : Zn} {k : Nat} (h : B.under k) : B.z k := h.all k (Nat.le_refl _)
theorem Zn.under_of (k : Nat) : (Zn.of k).under k := ⟨Nat.le_refl _, fun _ h => h⟩
/-- Outside the zone the world is as it was, and no draw is taken back. -/
structure Bel (B : Zn) (w w' : World) : Prop where
  b : Below B.n w w'
  dr : w.drawn ≤ w'.drawn
  out : ∀ k, k < w.heap.size → ¬ B.z k → w'.heap[k]? = w.heap[k]?
theorem Bel.refl (B : Zn) (w : World) : Bel B w w := ⟨Below.refl _ w, Nat.le_refl _, fun _ _ _ => rfl⟩
theorem Bel.trans {B : Zn} {a b c : World} (h : Bel B a b) (k : Bel B b c) : Bel B a c := ⟨h.b.trans k.b, Nat.le_trans h.dr k.dr, fun i hi hz => (k.out i (Nat.lt_of_lt_of_le hi h.b.size) hz).trans (h.out i hi hz)⟩
theorem Bel.mono {B : Zn} {k : Nat} {w w' : World} (h : Bel (.of k) w w') (hB : B.under k) : Bel B w w' := ⟨h.b.mono hB.le, h.dr, fun i hi hz => h.out i hi fun hk => hz (hB.all i hk)⟩
theorem Bel.drew {B : Zn} {a w : World} (h : Bel B a w) : Bel B a w.drew := ⟨h.b.drew, Nat.le_trans h.dr (Nat.le_succ _), h.out⟩
theorem Bel.alloc {B : Zn} {a w : World} (h : Bel B a w) (hB : B.under w.heap.size) (o : Obj) : Bel B a (w.alloc o) := ⟨h.b.alloc hB.le o, h.dr, fun i hi hz => (Below.heap_alloc w o i (Nat.lt_of_lt_of_le hi h.b.size)).trans (h.out i hi hz)⟩
theorem Bel.size {B : Zn} {w w' : World} (h : Bel B w w') : w.heap.size ≤ w'.heap.size := h.b.size
theorem Bel.block {B : Zn} {w w' : World} (h : Bel B w w') : ∀ k, k < B.n → w'.heap[k]? = w.heap[k]? := h.b.block
theorem Bel.setRow {B : Zn} {g : Nat} {w0 w : World} (hb : Bel B w0 w) (hBg : B.z g) (cs : Array Value) : Bel B w0 (w.setRow g cs) := ⟨below_setRow hb.b (B.le g hBg) cs, hb.dr, fun i hi hz => (setRow_other w g i cs (fun e => hz (e ▸ hBg))).trans (hb.out i hi hz)⟩

/-- An abstract value. -/
inductive AV where
  | undef
  | int (k : IntKind) (n : Int)
  | bool (b : Bool)
  | str (s : ByteArray)
  /-- a slice that nobody writes any more, by what it holds -/
  | sl (t : Ty) (xs : List t.D)
  | nilsl
  /-- a slice that nobody writes any more and that is not nil -/
  | nsl (t : Ty) (xs : List t.D)
  /-- a slice that is the whole of an own row -/
  | own (h : Nat)
  /-- the first elements of an own row -/
  | pre (h n : Nat)
  /-- the elements of an own row from one on -/
  | suf (h l : Nat)
  /-- a pointer into an own object: element i, cell c -/
  | ptr (h i c : Nat)
  /-- a pointer into an element that nobody writes any more -/
  | eptr (t : Ty) (x : t.D) (c : Nat)
  | nilp
  | mp (h : Nat)
  | nilmp
  | fn (f : FuncId) (caps : List AV)
  | agg (cs : List AV)
  | tup (cs : List AV)

/-- An own object. -/
inductive Ob where
  | box (cs : List AV)
  | arr (t : Ty) (xs : List t.D)
  | mp (k v : Ty) (es : List (k.D × v.D))
  /-- a table of rows: the first ones are values, the next one (if there is one) is an own row, by its name, or not known; the rest is nil -/
  | tab (t : Ty) (n : Nat) (xss : List (List t.D)) (act : Option (Option Nat))
  /-- a text's builder (its type): fresh, or with an own row of bytes -/
  | tbx (T : Nat) (act : Option (Option Nat))
  /-- a row of bytes whose cells' type is told -/
  | trow (e : Nat) (xs : List Int)

/-- Where an own object lies. -/
structure Wh where
  a : Option Addr
  sz : Nat
  n : Nat
  c : Nat

section lists
variable {α β : Type}
noncomputable def lapp (l q : List α) : List α := List.rec (motive := fun _ => List α) q (fun a _ ih => a :: ih) l
noncomputable def lmap (f : α → β) (l : List α) : List β := List.rec (motive := fun _ => List β) [] (fun a _ ih => f a :: ih) l
noncomputable def llen (l : List α) : Nat := List.rec (motive := fun _ => Nat) 0 (fun _ _ ih => ih + 1) l
noncomputable def lget (l : List α) : Nat → Option α := List.rec (motive := fun _ => Nat → Option α) (fun _ => none) (fun a _ ih n => match n with | 0 => some a | m + 1 => ih m) l
noncomputable def lset (v : α) (l : List α) : Nat → List α := List.rec (motive := fun _ => Nat → List α) (fun _ => []) (fun a l ih n => match n with | 0 => v :: l | m + 1 => a :: ih m) l
noncomputable def ltake (l : List α) : Nat → List α := List.rec (motive := fun _ => Nat → List α) (fun _ => []) (fun a _ ih n => match n with | 0 => [] | m + 1 => a :: ih m) l
noncomputable def ldrop (l : List α) : Nat → List α := List.rec (motive := fun _ => Nat → List α) (fun _ => []) (fun a l ih n => match n with | 0 => a :: l | m + 1 => ih m) l
noncomputable def lall (p : α → Bool) (l : List α) : Bool := List.rec (motive := fun _ => Bool) true (fun a _ ih => match p a with | true => ih | false => false) l
noncomputable def lflat (f : α → List β) (l : List α) : List β := List.rec (motive := fun _ => List β) [] (fun a _ ih => lapp (f a) ih) l
noncomputable def lzip (l : List α) : List β → List (α × β) := List.rec (motive := fun _ => List β → List (α × β)) (fun _ => []) (fun a _ ih q => match q with | [] => [] | b :: q => (a, b) :: ih q) l
theorem lapp_eq (l q : List α) : lapp l q = l ++ q := by induction l with | nil => rfl | cons a l ih => exact congrArg (a :: ·) ih
theorem lmap_eq (f : α → β) (l : List α) : lmap f l = l.map f := by induction l with | nil => rfl | cons a l ih => exact congrArg (f a :: ·) ih
theorem llen_eq (l : List α) : llen l = l.length := by induction l with | nil => rfl | cons a l ih => exact congrArg (· + 1) ih
theorem lget_eq (l : List α) : ∀ n, lget l n = l[n]? := by
  induction l with
  | nil => intro n; rfl
  | cons a l ih => intro n; cases n with | zero => rfl | succ n => exact (ih n).trans (List.getElem?_cons_succ).symm
theorem lset_eq (v : α) (l : List α) : ∀ n, lset v l n = l.set n v := by
  induction l with
  | nil => intro n; rfl
  | cons a l ih => intro n; cases n with | zero => rfl | succ n => exact congrArg (a :: ·) (ih n)
theorem ltake_eq (l : List α) : ∀ n, ltake l n = l.take n := by
  induction l with
  | nil => intro n; exact List.take_nil.symm
  | cons a l ih => intro n; cases n with | zero => rfl | succ n => exact congrArg (a :: ·) (ih n)
theorem ldrop_eq (l : List α) : ∀ n, ldrop l n = l.drop n := by
  induction l with
  | nil => intro n; exact List.drop_nil.symm
  | cons a l ih => intro n; cases n with | zero => rfl | succ n => exact ih n
theorem lall_eq (p : α → Bool) (l : List α) : lall p l = l.all p := by
  induction l with
  | nil => rfl
  | cons a l ih =>
    show (match p a with | true => lall p l | false => false) = (a :: l).all p
    rw [ih, List.all_cons]
    cases p a <;> rfl
theorem lflat_eq (f : α → List β) (l : List α) : lflat f l = l.flatMap f := by
  induction l with
  | nil => rfl
  | cons a l ih => rw [List.flatMap_cons, ← ih, ← lapp_eq]; rfl
theorem lzip_eq (l : List α) : ∀ q : List β, lzip l q = l.zip q := by
  induction l with
  | nil => intro q; rfl
  | cons a l ih => intro q; cases q with | nil => rfl | cons b q => exact congrArg ((a, b) :: ·) (ih q)
end lists

noncomputable def Ty.toCells (t : Ty) : t.D → List AV :=
  Ty.rec (motive := fun t => t.D → List AV) (fun k n => [.int k n]) (fun b => [.bool b]) (fun s => [.str s]) (fun t _ xs => [.sl t xs])
    (fun _ ih x => ih x) (fun _ _ ih jh x => lapp (ih x.1) (jh x.2)) t

noncomputable def Ty.ofCells (t : Ty) : List AV → Option (t.D × List AV) :=
  Ty.rec (motive := fun t => List AV → Option (t.D × List AV))
    (fun k cs => match cs with
      | .int j n :: r => (match kEq k j with | some _ => some (n, r) | none => none)
      | _ => none)
    (fun cs => match cs with | .bool b :: r => some (b, r) | _ => none)
    (fun cs => match cs with | .str s :: r => some (s, r) | _ => none)
    (fun t _ cs => match cs with
      | .sl u xs :: r => (match u.eqv t with | some ⟨h⟩ => h ▸ some (xs, r) | none => none)
      | .nilsl :: r => some ([], r)
      | _ => none)
    (fun _ ih cs => ih cs)
    (fun _ _ ih jh cs => match ih cs with
      | some (x, q) => (match jh q with | some (y, q') => some ((x, y), q') | none => none)
      | none => none)
    t
theorem Ty.ofCells_int {k : IntKind} {cs : List AV} : Ty.ofCells (.int k) cs = match cs with
      | .int j n :: r => (match kEq k j with | some _ => some (n, r) | none => none)
      | _ => none := rfl
theorem Ty.ofCells_bool {cs : List AV} : Ty.ofCells .bool cs = match cs with | .bool b :: r => some (b, r) | _ => none := rfl
theorem Ty.ofCells_str {cs : List AV} : Ty.ofCells .str cs = match cs with | .str s :: r => some (s, r) | _ => none := rfl
theorem Ty.ofCells_sl {t : Ty} {cs : List AV} : Ty.ofCells (.sl t) cs = match cs with
      | .sl u xs :: r => (match u.eqv t with | some ⟨h⟩ => h ▸ some (xs, r) | none => none)
      | .nilsl :: r => some ([], r)
      | _ => none := rfl
theorem Ty.ofCells_fld {a r : Ty} {cs : List AV} : Ty.ofCells (.fld a r) cs = match a.ofCells cs with
      | some (x, q) => (match r.ofCells q with | some (y, q') => some ((x, y), q') | none => none)
      | none => none := rfl
theorem Ty.toCells_fld {a r : Ty} (x : (Ty.fld a r).D) : (Ty.fld a r).toCells x = a.toCells (Prod.fst (α := a.D) (β := r.D) x) ++ r.toCells (Prod.snd (α := a.D) (β := r.D) x) := lapp_eq _ _

/-- A slice's room: none where it is nil. -/
def CapOk (a : Option Addr) (n c : Nat) : Prop := n ≤ c ∧ (a = none → c = 0)
section rel
variable (St : Nat → Prop) (w : World)

/-- A row of elements at an address. -/
def RowK {α : Type} (K : α → List Value → Prop) (sz : Nat) (a : Option Addr) (xs : List α) : Prop :=
  ∀ i x, xs[i]? = some x → ∃ b o, a = some ⟨b, o, none⟩ ∧ St b ∧ ∃ us, us.length = sz ∧ K x us ∧ ∀ j u, us[j]? = some u → w.cell? ⟨b, o + i * sz + j, none⟩ = some u

def Ty.rep : (t : Ty) → t.D → List Value → Prop
  | .int k, n, us => us = [.int k n]
  | .bool, b, us => us = [.bool b]
  | .str, s, us => us = [.string s]
  | .sl t, xs, us => ∃ a c, us = [.slice a xs.length c] ∧ CapOk a xs.length c ∧ RowK St w t.rep t.size a xs
  | .one a, x, us => a.rep x us
  | .fld a r, x, us => ∃ u1 u2, us = u1 ++ u2 ∧ a.rep x.1 u1 ∧ r.rep x.2 u2

variable (μ : Nat → Option Wh)
mutual
def RV : AV → Value → Prop
  | .undef, _ => True
  | .int k n, v => v = .int k n
  | .bool b, v => v = .bool b
  | .str s, v => v = .string s
  | .sl t xs, v => ∃ a c, v = .slice a xs.length c ∧ CapOk a xs.length c ∧ RowK St w (t.rep St w) t.size a xs
  | .nsl t xs, v => ∃ a c, v = .slice (some a) xs.length c ∧ CapOk (some a) xs.length c ∧ RowK St w (t.rep St w) t.size (some a) xs
  | .nilsl, v => v = .slice none 0 0
  | .own h, v => ∃ m, μ h = some m ∧ v = .slice m.a m.n m.c
  | .pre h n, v => ∃ m, μ h = some m ∧ n ≤ m.n ∧ v = .slice m.a n m.c
  | .suf h l, v => ∃ m, μ h = some m ∧ l ≤ m.n ∧ v = .slice (if m.c = l then m.a else m.a.map (·.add (l * m.sz))) (m.n - l) (m.c - l)
  | .ptr h i c, v => ∃ m b o, μ h = some m ∧ m.a = some ⟨b, o, none⟩ ∧ i < m.n ∧ v = .pointer (some ⟨b, o + i * m.sz + c, none⟩)
  | .eptr t x c, v => ∃ b o us, v = .pointer (some ⟨b, o + c, none⟩) ∧ St b ∧ us.length = t.size ∧ t.rep St w x us ∧ ∀ j u, us[j]? = some u → w.cell? ⟨b, o + j, none⟩ = some u
  | .nilp, v => v = .pointer none
  | .mp h, v => ∃ m b, μ h = some m ∧ m.a = some ⟨b, 0, none⟩ ∧ v = .map (some b)
  | .nilmp, v => v = .map none
  | .fn f caps, v => ∃ vs, v = .func (.func f) #[] vs.toArray ∧ RVs caps vs
  | .agg cs, v => ∃ vs, v = .agg vs.toArray ∧ RVs cs vs
  | .tup cs, v => ∃ vs, v = .tuple vs.toArray ∧ RVs cs vs
def RVs : List AV → List Value → Prop
  | [], vs => vs = []
  | c :: cs, vs => ∃ u us, vs = u :: us ∧ RV c u ∧ RVs cs us
end
end rel

def AV.cell : AV → Bool
  | .undef | .agg _ | .tup _ => false
  | _ => true

section
variable {St St' : Nat → Prop} {w w' : World} {μ μ' : Nat → Option Wh}

theorem RV.one {c : AV} {v : Value} (hc : c.cell = true) (h : RV St w μ c v) : v.oneCell' = true := by
  cases c <;> simp [AV.cell] at hc <;> simp only [RV] at h
  case int => subst h; rfl
  case bool => subst h; rfl
  case str => subst h; rfl
  case sl => obtain ⟨a, c, rfl, _⟩ := h; rfl
  case nilsl => subst h; rfl
  case nsl => obtain ⟨a, c, rfl, _⟩ := h; rfl
  case own => obtain ⟨m, _, rfl⟩ := h; rfl
  case pre => obtain ⟨m, _, _, rfl⟩ := h; rfl
  case suf => obtain ⟨m, _, _, rfl⟩ := h; rfl
  case ptr => obtain ⟨m, b, o, _, _, _, rfl⟩ := h; rfl
  case eptr => obtain ⟨b, o, us, rfl, _⟩ := h; rfl
  case nilp => subst h; rfl
  case mp => obtain ⟨m, b, _, _, rfl⟩ := h; rfl
  case nilmp => subst h; rfl
  case fn => obtain ⟨vs, rfl, _⟩ := h; rfl

/-- What is stable stays. -/
structure Keeps (St St' : Nat → Prop) (w w' : World) : Prop where
  st : ∀ b, St b → St' b
  at_ : ∀ b, St b → w'.heap[b]? = w.heap[b]?

theorem Keeps.refl (St : Nat → Prop) (w : World) : Keeps St St w w := ⟨fun _ h => h, fun _ _ => rfl⟩
theorem Keeps.trans {S1 S2 S3 : Nat → Prop} {a b c : World} (h : Keeps S1 S2 a b) (k : Keeps S2 S3 b c) : Keeps S1 S3 a c :=
  ⟨fun i hi => k.st i (h.st i hi), fun i hi => (k.at_ i (h.st i hi)).trans (h.at_ i hi)⟩
theorem Keeps.cell (h : Keeps St St' w w') {b o : Nat} (hb : St b) : w'.cell? ⟨b, o, none⟩ = w.cell? ⟨b, o, none⟩ := by
  simp [World.cell?, h.at_ b hb]

theorem RowK.mono {α : Type} {K K' : α → List Value → Prop} {sz : Nat} {a : Option Addr} {xs : List α} (h : Keeps St St' w w') (hK : ∀ x us, K x us → K' x us) (r : RowK St w K sz a xs) : RowK St' w' K' sz a xs := by
  intro i x hx
  obtain ⟨b, o, ha, hb, us, hl, hk, hc⟩ := r i x hx
  exact ⟨b, o, ha, h.st b hb, us, hl, hK _ _ hk, fun j u hu => (h.cell hb).trans (hc j u hu)⟩
theorem Ty.rep_mono (h : Keeps St St' w w') : ∀ (t : Ty) (x : t.D) (us : List Value), t.rep St w x us → t.rep St' w' x us
  | .int _, _, _, r => r
  | .bool, _, _, r => r
  | .str, _, _, r => r
  | .sl t, xs, us, r => by
    obtain ⟨a, c, e, hl, hr⟩ := r
    exact ⟨a, c, e, hl, hr.mono h (t.rep_mono h)⟩
  | .one a, x, us, r => a.rep_mono h x us r
  | .fld a r, x, us, q => by
    obtain ⟨u1, u2, e, h1, h2⟩ := q
    exact ⟨u1, u2, e, a.rep_mono h _ _ h1, r.rep_mono h _ _ h2⟩
theorem Ty.rep_len : ∀ (t : Ty) (x : t.D) (us : List Value), t.rep St w x us → us.length = t.size
  | .int _, _, _, r => by simp only [Ty.rep] at r; subst r; rfl
  | .bool, _, _, r => by simp only [Ty.rep] at r; subst r; rfl
  | .str, _, _, r => by simp only [Ty.rep] at r; subst r; rfl
  | .sl t, xs, us, r => by obtain ⟨a, c, e, _⟩ := r; subst e; rfl
  | .one a, x, us, r => a.rep_len x us r
  | .fld a r, x, us, q => by
    obtain ⟨u1, u2, e, h1, h2⟩ := q
    subst e
    rw [List.length_append, a.rep_len _ _ h1, r.rep_len _ _ h2]; rfl

/-- Where things lie: told once, never untold. -/
def Ext (μ μ' : Nat → Option Wh) : Prop := ∀ h m, μ h = some m → μ' h = some m
mutual
theorem RV.mono (h : Keeps St St' w w') (e : Ext μ μ') : ∀ (c : AV) (v : Value), RV St w μ c v → RV St' w' μ' c v
  | .undef, _, _ => trivial
  | .int _ _, _, r => by simpa only [RV] using r
  | .bool _, _, r => by simpa only [RV] using r
  | .str _, _, r => by simpa only [RV] using r
  | .nilsl, _, r => by simpa only [RV] using r
  | .nilp, _, r => by simpa only [RV] using r
  | .nilmp, _, r => by simpa only [RV] using r
  | .sl t xs, _, r => by
    simp only [RV] at r ⊢
    obtain ⟨a, c, e1, hl, hr⟩ := r
    exact ⟨a, c, e1, hl, hr.mono h (t.rep_mono h)⟩
  | .nsl t xs, _, r => by
    simp only [RV] at r ⊢
    obtain ⟨a, c, e1, hl, hr⟩ := r
    exact ⟨a, c, e1, hl, hr.mono h (t.rep_mono h)⟩
  | .own q, _, r => by
    simp only [RV] at r ⊢
    obtain ⟨m, h1, h2⟩ := r
    exact ⟨m, e _ _ h1, h2⟩
  | .pre q n, _, r => by
    simp only [RV] at r ⊢
    obtain ⟨m, h1, h2⟩ := r
    exact ⟨m, e _ _ h1, h2⟩
  | .suf q n, _, r => by
    simp only [RV] at r ⊢
    obtain ⟨m, h1, h2⟩ := r
    exact ⟨m, e _ _ h1, h2⟩
  | .ptr q i c, _, r => by
    simp only [RV] at r ⊢
    obtain ⟨m, b, o, h1, h2⟩ := r
    exact ⟨m, b, o, e _ _ h1, h2⟩
  | .eptr t x c, _, r => by
    simp only [RV] at r ⊢
    obtain ⟨b, o, us, h1, h2, h3, h4, h5⟩ := r
    exact ⟨b, o, us, h1, h.st b h2, h3, t.rep_mono h _ _ h4, fun j u hu => (h.cell h2).trans (h5 j u hu)⟩
  | .mp q, _, r => by
    simp only [RV] at r ⊢
    obtain ⟨m, b, h1, h2⟩ := r
    exact ⟨m, b, e _ _ h1, h2⟩
  | .fn f caps, _, r => by
    simp only [RV] at r ⊢
    obtain ⟨vs, h1, h2⟩ := r
    exact ⟨vs, h1, RVs.mono h e caps vs h2⟩
  | .agg cs, _, r => by
    simp only [RV] at r ⊢
    obtain ⟨vs, h1, h2⟩ := r
    exact ⟨vs, h1, RVs.mono h e cs vs h2⟩
  | .tup cs, _, r => by
    simp only [RV] at r ⊢
    obtain ⟨vs, h1, h2⟩ := r
    exact ⟨vs, h1, RVs.mono h e cs vs h2⟩
theorem RVs.mono (h : Keeps St St' w w') (e : Ext μ μ') : ∀ (cs : List AV) (vs : List Value), RVs St w μ cs vs → RVs St' w' μ' cs vs
  | [], vs, r => by simpa only [RVs] using r
  | c :: cs, vs, r => by
    simp only [RVs] at r ⊢
    obtain ⟨u, us, h1, h2, h3⟩ := r
    exact ⟨u, us, h1, RV.mono h e c u h2, RVs.mono h e cs us h3⟩
end

theorem RVs.len : ∀ {cs : List AV} {vs : List Value}, RVs St w μ cs vs → vs.length = cs.length
  | [], vs, r => by simp only [RVs] at r; subst r; rfl
  | c :: cs, vs, r => by
    simp only [RVs] at r
    obtain ⟨u, us, rfl, _, h3⟩ := r
    simp [h3.len]
theorem RVs.append : ∀ {cs ds : List AV} {vs us : List Value}, RVs St w μ cs vs → RVs St w μ ds us → RVs St w μ (cs ++ ds) (vs ++ us)
  | [], ds, vs, us, r, q => by simp only [RVs] at r; subst r; exact q
  | c :: cs, ds, vs, us, r, q => by
    simp only [RVs] at r
    obtain ⟨u, vs', rfl, h2, h3⟩ := r
    simp only [List.cons_append, RVs]
    exact ⟨u, vs' ++ us, rfl, h2, h3.append q⟩
theorem RVs.get : ∀ {cs : List AV} {vs : List Value} {i : Nat} {c : AV}, RVs St w μ cs vs → cs[i]? = some c → ∃ v, vs[i]? = some v ∧ RV St w μ c v
  | [], _, _, _, _, h => by simp at h
  | c :: cs, vs, i, d, r, h => by
    simp only [RVs] at r
    obtain ⟨u, us, rfl, h2, h3⟩ := r
    cases i with
    | zero => simp at h; subst h; exact ⟨u, rfl, h2⟩
    | succ i => simp at h ⊢; exact h3.get h
theorem RVs.set : ∀ {cs : List AV} {vs : List Value} {c : AV} {v : Value} (i : Nat), RVs St w μ cs vs → RV St w μ c v → RVs St w μ (cs.set i c) (vs.set i v)
  | [], vs, _, _, _, r, _ => by simp only [RVs] at r; subst r; simp [RVs]
  | c :: cs, vs, d, v, i, r, h => by
    simp only [RVs] at r
    obtain ⟨u, us, rfl, h2, h3⟩ := r
    cases i with
    | zero => simp only [List.set_cons_zero, RVs]; exact ⟨v, us, rfl, h, h3⟩
    | succ i => simp only [List.set_cons_succ, RVs]; exact ⟨u, us.set i v, rfl, h2, h3.set i h⟩
theorem RVs.drop : ∀ {cs : List AV} {vs : List Value} (i : Nat), RVs St w μ cs vs → RVs St w μ (cs.drop i) (vs.drop i)
  | [], vs, i, r => by simp only [RVs] at r; subst r; simp [RVs]
  | c :: cs, vs, 0, r => r
  | c :: cs, vs, i + 1, r => by
    simp only [RVs] at r
    obtain ⟨u, us, rfl, h2, h3⟩ := r
    simpa using h3.drop i
theorem RVs.take : ∀ {cs : List AV} {vs : List Value} (i : Nat), RVs St w μ cs vs → RVs St w μ (cs.take i) (vs.take i)
  | [], vs, i, r => by simp only [RVs] at r; subst r; simp [RVs]
  | c :: cs, vs, 0, r => by simp [RVs]
  | c :: cs, vs, i + 1, r => by
    simp only [RVs] at r
    obtain ⟨u, us, rfl, h2, h3⟩ := r
    simp only [List.take_succ_cons, RVs]
    exact ⟨u, us.take i, rfl, h2, h3.take i⟩

/-- The cells of an element. -/
theorem Ty.cells_of_rep : ∀ (t : Ty) (x : t.D) (us : List Value), t.rep St w x us → RVs St w μ (t.toCells x) us
  | .int k, n, us, r => by simp only [Ty.rep] at r; subst r; exact ⟨_, _, rfl, rfl, rfl⟩
  | .bool, n, us, r => by simp only [Ty.rep] at r; subst r; exact ⟨_, _, rfl, rfl, rfl⟩
  | .str, n, us, r => by simp only [Ty.rep] at r; subst r; exact ⟨_, _, rfl, rfl, rfl⟩
  | .sl t, xs, us, r => by
    simp only [Ty.rep] at r
    obtain ⟨a, c, rfl, h⟩ := r
    exact ⟨_, [], rfl, ⟨a, c, rfl, h⟩, rfl⟩
  | .one a, x, us, r => a.cells_of_rep x us r
  | .fld a r, x, us, q => by
    simp only [Ty.rep] at q
    obtain ⟨u1, u2, rfl, h1, h2⟩ := q
    rw [Ty.toCells_fld]
    exact (a.cells_of_rep _ _ h1).append (r.cells_of_rep _ _ h2)
theorem Ty.toCells_cell : ∀ (t : Ty) (x : t.D), (t.toCells x).all AV.cell = true
  | .int k, n => rfl
  | .bool, n => rfl
  | .str, n => rfl
  | .sl t, xs => rfl
  | .one a, x => a.toCells_cell x
  | .fld a r, x => by rw [Ty.toCells_fld, List.all_append, a.toCells_cell, r.toCells_cell]; rfl
theorem Ty.toCells_len : ∀ (t : Ty) (x : t.D), (t.toCells x).length = t.size
  | .int k, n => rfl
  | .bool, n => rfl
  | .str, n => rfl
  | .sl t, xs => rfl
  | .one a, x => a.toCells_len x
  | .fld a r, x => by rw [Ty.toCells_fld, List.length_append, a.toCells_len, r.toCells_len]; rfl
theorem Ty.rep_of_cells : ∀ (t : Ty) (cs : List AV) (x : t.D) (q : List AV) (vs : List Value), t.ofCells cs = some (x, q) → RVs St w μ cs vs → ∃ us ws, vs = us ++ ws ∧ t.rep St w x us ∧ RVs St w μ q ws
  | .int k, cs, x, q, vs, h, r => by
    rw [Ty.ofCells_int] at h
    split at h
    · rename_i j n rest
      split at h
      · rename_i e _
        simp only [Option.some.injEq, Prod.mk.injEq] at h
        obtain ⟨rfl, rfl⟩ := h
        have hjk := e.down
        subst hjk
        simp only [RVs, RV] at r
        obtain ⟨u, us, rfl, rfl, h3⟩ := r
        exact ⟨[_], us, rfl, rfl, h3⟩
      · simp at h
    · simp at h
  | .bool, cs, x, q, vs, h, r => by
    rw [Ty.ofCells_bool] at h
    split at h
    · simp only [Option.some.injEq, Prod.mk.injEq] at h
      obtain ⟨rfl, rfl⟩ := h
      simp only [RVs, RV] at r
      obtain ⟨u, us, rfl, rfl, h3⟩ := r
      exact ⟨[_], us, rfl, rfl, h3⟩
    · simp at h
  | .str, cs, x, q, vs, h, r => by
    rw [Ty.ofCells_str] at h
    split at h
    · simp only [Option.some.injEq, Prod.mk.injEq] at h
      obtain ⟨rfl, rfl⟩ := h
      simp only [RVs, RV] at r
      obtain ⟨u, us, rfl, rfl, h3⟩ := r
      exact ⟨[_], us, rfl, rfl, h3⟩
    · simp at h
  | .sl t, cs, x, q, vs, h, r => by
    rw [Ty.ofCells_sl] at h
    split at h
    · rename_i u xs rest
      split at h
      · rename_i e _
        subst e
        simp only [Option.some.injEq, Prod.mk.injEq] at h
        obtain ⟨rfl, rfl⟩ := h
        simp only [RVs, RV] at r
        obtain ⟨v, us, rfl, ⟨a, c, rfl, hh⟩, h3⟩ := r
        exact ⟨[_], us, rfl, ⟨a, c, rfl, hh⟩, h3⟩
      · simp at h
    · simp only [Option.some.injEq, Prod.mk.injEq] at h
      obtain ⟨rfl, rfl⟩ := h
      simp only [RVs, RV] at r
      obtain ⟨v, us, rfl, rfl, h3⟩ := r
      exact ⟨[_], us, rfl, ⟨none, 0, rfl, ⟨Nat.le_refl _, fun _ => rfl⟩, fun i x hx => by have h0 : (none : Option t.D) = some x := hx; cases h0⟩, h3⟩
    · simp at h
  | .one a, cs, x, q, vs, h, r => a.rep_of_cells cs x q vs h r
  | .fld a b, cs, x, q, vs, h, r => by
    rw [Ty.ofCells_fld] at h
    split at h
    · rename_i x1 q1 h1
      split at h
      · rename_i y q2 h2
        simp only [Option.some.injEq, Prod.mk.injEq] at h
        obtain ⟨rfl, rfl⟩ := h
        obtain ⟨us, ws, rfl, hr1, hq1⟩ := a.rep_of_cells cs x1 q1 vs h1 r
        obtain ⟨us2, ws2, rfl, hr2, hq2⟩ := b.rep_of_cells q1 y _ ws h2 hq1
        exact ⟨us ++ us2, ws2, by rw [List.append_assoc], ⟨us, us2, rfl, hr1, hr2⟩, hq2⟩
      · simp at h
    · simp at h
end
end Go.Proofs.YtaafjaibaaiigaaGreatDoor.Eng
/- The machine apart from memory: what an operation, a region and a piece of code do to abstract values. Written for this seat's proofs. -/
set_option linter.unusedVariables false
set_option linter.unusedSimpArgs false
namespace Go.Proofs.YtaafjaibaaiigaaGreatDoor.Eng
open Go Go.RowKit

noncomputable section
def ofCell : Value → AV
  | .int k n => .int k n
  | .bool b => .bool b
  | .string s => .str s
  | .slice none 0 0 => .nilsl
  | .pointer none => .nilp
  | .map none => .nilmp
  | _ => .undef
def ofValue : Value → AV
  | .agg cs => .agg (lmap ofCell cs.toList)
  | v => ofCell v

/-- What is told of a type: 1 slice, 2 array, 3 struct, 4 string, 5 integer, 6 map, 7 bool, 0 other. -/
structure TI where
  kind : Nat
  agg : Bool
  size : Nat
  bytes : Nat
  elem : Nat
  len : Nat
  ik : IntKind
  zero : List AV
  ty : Option Ty
  flds : List (Nat × Nat)
  cmp : Bool
  z1 : Bool
def TI.none : TI := ⟨0, false, 0, 0, 0, 0, .i64, [], .none, [], false, false⟩

inductive Rd (α : Type) : Type where
  | ok (a : α)
  | bad
  | get (h : Nat) (k : Option Ob → Rd α)

def Rd.bind {α β : Type} (x : Rd α) (f : α → Rd β) : Rd β :=
  Rd.rec (motive := fun _ => Rd β) f .bad (fun h _ ih => .get h ih) x
def Rd.run {α : Type} (H : Nat → Option Ob) (x : Rd α) : Option α :=
  Rd.rec (motive := fun _ => Option α) some none (fun h _ ih => ih (H h)) x
def Rd.reads {α : Type} (H : Nat → Option Ob) (x : Rd α) : List Nat :=
  Rd.rec (motive := fun _ => List Nat) (fun _ => []) [] (fun h _ ih => h :: ih (H h)) x

structure Res where
  ps : List Prop
  val : AV
  ups : List (Nat × Option Ob)

/-- A function that turns no memory that was there: what it takes, what it gives, what it asks for, what it answers. -/
structure Fn1 where
  ins : Ty
  outs : Ty
  pre : ins.D → List Prop
  res : ins.D → outs.D

/-- What is told of a function: a contract, a contract where the last argument is a function, or what a call does to its caller's memory. -/
inductive Ctr where
  | plain (k : Fn1)
  | fixd (g : Nat) (k : Fn1)
  | eff (X : List AV → Nat → Rd Res)
instance : Coe Fn1 Ctr := ⟨Ctr.plain⟩

structure Env where
  T : List TI
  K : List (Nat × Ctr)
  ann : Nat → Option (List Nat × List (Nat × Ty) × List (Nat × Nat × Ty))

def Env.ti (E : Env) (t : Nat) : TI := match lget E.T t with | some i => i | none => TI.none
def findK (l : List (Nat × Ctr)) (f : Nat) : Option Ctr :=
  List.rec (motive := fun _ => Option Ctr) none (fun p _ ih => match Nat.beq p.1 f with | true => some p.2 | false => ih) l

def andB (a b : Bool) : Bool := match a with | true => b | false => false
def Ty.flat (t : Ty) : Bool := Ty.rec (motive := fun _ => Bool) (fun _ => true) true true (fun _ _ => false) (fun _ b => b) (fun _ _ a b => andB a b) t
def eqSize (i : TI) (ty : Ty) : Bool := andB (Nat.ble 1 i.kind) (Nat.beq i.size ty.size)
section ops
variable (E : Env)

def cellsOf : AV → List AV
  | .agg cs => cs
  | v => [v]

/-- Own slices seen by what they hold. -/
def viewR (l : List AV) : Rd (List AV) :=
  List.rec (motive := fun _ => Rd (List AV)) (.ok []) (fun v _ ih => match v with
    | .own h => .get h fun o => match o with
      | some (.arr t xs) => ih.bind fun l => .ok (.sl t xs :: l)
      | _ => .bad
    | .pre h n => .get h fun o => match o with
      | some (.arr t xs) => ih.bind fun l => .ok (.sl t (xs.take n) :: l)
      | _ => .bad
    | .suf h n => .get h fun o => match o with
      | some (.arr t xs) => ih.bind fun l => .ok (.sl t (xs.drop n) :: l)
      | _ => .bad
    | v => ih.bind fun l => .ok (v :: l)) l

def takeR (t : Nat) (cs : List AV) : Rd Res :=
  match (E.ti t).kind with
  | 0 => .bad
  | _ => match (E.ti t).agg with
  | true => match Nat.beq (llen (ltake cs (E.ti t).size)) (E.ti t).size with
    | true => .ok ⟨[], .agg (ltake cs (E.ti t).size), []⟩
    | false => .bad
  | false => match cs with
    | v :: _ => .ok ⟨[], v, []⟩
    | [] => .bad

def rd (t : Ty) (xs : List t.D) (i : Nat) : t.D := xs.getD i t.dflt

/-- A row of a table. -/
def tabAt (ty : Ty) (xss : List (List ty.D)) (act : Option (Option Nat)) (i : Nat) : AV :=
  match Nat.ble xss.length i with
  | false => .sl ty (xss.getD i [])
  | true => match act with
    | none => .nilsl
    | some q => match Nat.beq i xss.length with
      | true => (match q with | some a => .own a | none => .undef)
      | false => .nilsl
def loadR (t : Nat) : AV → Rd Res
  | .ptr h i c => .get h fun o => match o with
    | some (.box cs) => takeR E t (ldrop cs c)
    | some (.arr ty xs) => takeR E t (ldrop (ty.toCells (rd ty xs i)) c)
    | some (.tab ty n xss act) => match Nat.beq c 0 with
      | true => takeR E t [tabAt ty xss act i]
      | false => .bad
    | _ => .bad
  | .eptr ty x c => takeR E t (ldrop (ty.toCells x) c)
  | _ => .bad

def splice (l : List AV) (c : Nat) (new : List AV) : List AV := lapp (ltake l c) (lapp new (ldrop l (c + llen new)))

/-- Own slices given away for good: seen by what they hold, and no one's any more. -/
def giveR (l : List AV) : Rd (List AV × List (Nat × Option Ob)) :=
  List.rec (motive := fun _ => Rd (List AV × List (Nat × Option Ob))) (.ok ([], [])) (fun v _ ih => match v with
    | .own h => .get h fun o => match o with
      | some (.arr t xs) => ih.bind fun l => .ok (.sl t xs :: l.1, (h, none) :: l.2)
      | _ => .bad
    | v => ih.bind fun l => .ok (v :: l.1, l.2)) l

/-- An own row laid into a table; the one before is given away for good. -/
def putTab (h i : Nat) (ty : Ty) (n : Nat) (xss : List (List ty.D)) (act : Option (Option Nat)) : AV → Rd Res
  | .own g => match andB ty.flat (match Nat.beq g h with | true => false | false => true) with
    | true => .get g fun og => match og with
      | some (.arr u ys) => (match u.eqv ty with
        | some _ => (match act with
          | none => .ok ⟨[xss.length ≤ i], .undef, [(h, some (.tab ty n (xss ++ List.replicate (i - xss.length) []) (some (some g))))]⟩
          | some none => .ok ⟨[i = xss.length], .undef, [(h, some (.tab ty n xss (some (some g))))]⟩
          | some (some a) => match andB (match Nat.beq a h with | true => false | false => true) (match Nat.beq a g with | true => false | false => true) with
            | false => .bad
            | true => .get a fun oa => match oa with
              | none => .ok ⟨[i = xss.length], .undef, [(h, some (.tab ty n xss (some (some g))))]⟩
              | some (.arr u' zs) => (match u'.eqv ty with
                | some ⟨e⟩ => .ok ⟨[xss.length < i], .undef, [(a, none), (h, some (.tab ty n (xss ++ (e ▸ zs) :: List.replicate (i - xss.length - 1) []) (some (some g))))]⟩
                | none => .bad)
              | _ => .bad)
        | none => .bad)
      | _ => .bad
    | false => .bad
  | _ => .bad
def storeR (t : Nat) (v : AV) : AV → Rd Res
  | .ptr h i c => match andB (Nat.ble 1 (E.ti t).kind) (andB (Nat.beq (llen (cellsOf v)) (E.ti t).size) (lall AV.cell (cellsOf v))) with
    | true => .get h fun o => match o with
      | some (.box cs) => match Nat.ble (c + (E.ti t).size) (llen cs) with
        | true => .ok ⟨[], .undef, [(h, some (.box (splice cs c (cellsOf v))))]⟩
        | false => .bad
      | some (.arr ty xs) => match Nat.ble (c + (E.ti t).size) ty.size with
        | true => (giveR (cellsOf v)).bind fun g => match lall (fun p => match Nat.beq p.1 h with | true => false | false => true) g.2 with
          | true => match ty.ofCells (splice (ty.toCells (rd ty xs i)) c g.1) with
            | some (x, []) => .ok ⟨[], .undef, lapp g.2 [(h, some (.arr ty (xs.set i x)))]⟩
            | _ => .bad
          | false => .bad
        | false => .bad
      | some (.tab ty n xss act) => match andB (Nat.beq c 0) (Nat.beq (E.ti t).size 1) with
        | true => putTab h i ty n xss act v
        | false => .bad
      | _ => .bad
    | false => .bad
  | _ => .bad

def fillC (place : Nat → Option (Nat × Nat)) (parts : List (Nat × AV)) : List AV → Option (List AV) :=
  List.rec (motive := fun _ => List AV → Option (List AV)) (fun cells => some cells) (fun p _ ih cells =>
    match place p.1 with
    | none => none
    | some q =>
      match andB (Nat.beq (llen (cellsOf p.2)) q.2) (andB (Nat.ble (q.1 + q.2) (llen cells)) (lall AV.cell (cellsOf p.2))) with
      | true => ih (splice cells q.1 (cellsOf p.2))
      | false => none) parts

def repl {α : Type} (l : List α) (n : Nat) : List α := Nat.rec (motive := fun _ => List α) [] (fun _ ih => lapp l ih) n

def placeOf (t i : Nat) : Option (Nat × Nat) := match lget (E.ti t).flds i with | some f => some (f.1, (E.ti f.2).size) | none => none
def buildR (t : Nat) (parts : List (Nat × AV)) : Rd Res :=
  match (E.ti t).kind with
  | 3 => match andB (lall (fun f : Nat × Nat => Nat.ble 1 (E.ti f.2).kind) (E.ti t).flds) (Nat.ble 1 (llen (E.ti t).zero)) with
    | true => (match fillC (placeOf E t) parts (E.ti t).zero with
      | some cs => .ok ⟨[], .agg cs, []⟩
      | none => .bad)
    | false => .bad
  | 2 => match andB (Nat.ble 1 (E.ti (E.ti t).elem).kind) (Nat.ble 1 (llen (E.ti t).zero)) with
    | true => (match fillC (fun i => some (i * (E.ti (E.ti t).elem).size, (E.ti (E.ti t).elem).size)) parts (E.ti t).zero with
      | some cs => .ok ⟨[], .agg cs, []⟩
      | none => .bad)
    | false => .bad
  | _ => .bad

/-- The elements that cells make. -/
def elems (t : Ty) (n : Nat) : List AV → Option (List t.D) :=
  Nat.rec (motive := fun _ => List AV → Option (List t.D)) (fun cs => match cs with | [] => some [] | _ :: _ => none)
    (fun _ ih cs => match t.ofCells cs with
      | some (x, q) => (match ih q with | some xs => some (x :: xs) | none => none)
      | none => none) n

def buildSliceR (t : Nat) (len : Nat) (parts : List (Nat × AV)) (base : Nat) : Rd Res :=
  match (E.ti t).kind with
  | 1 => match (E.ti (E.ti t).elem).ty, andB (andB (Nat.ble 1 (E.ti (E.ti t).elem).kind) (andB (Nat.ble 1 (llen (E.ti (E.ti t).elem).zero)) (Nat.beq (llen (E.ti (E.ti t).elem).zero) (E.ti (E.ti t).elem).size))) (andB (Nat.ble (len * (E.ti (E.ti t).elem).size) 16777216) (Nat.ble 1 len)) with
    | some ty, true => match fillC (fun i => some (i * (E.ti (E.ti t).elem).size, (E.ti (E.ti t).elem).size)) parts (repl (E.ti (E.ti t).elem).zero len) with
      | some cs => (giveR cs).bind fun g => match elems ty len g.1 with
        | some xs => .ok ⟨[], .own base, (base, some (.arr ty xs)) :: g.2⟩
        | none => .bad
      | none => .bad
    | _, _ => .bad
  | _ => .bad

/-- An empty slice that is not nil. -/
def emptyR (t : Nat) (base : Nat) : Rd Res :=
  match (E.ti t).kind with
  | 1 => (match (E.ti (E.ti t).elem).ty, Nat.ble 1 (E.ti (E.ti t).elem).kind with
    | some ty, true => .ok ⟨[], .own base, [(base, some (.arr ty []))]⟩
    | _, _ => .bad)
  | _ => .bad

def bitsR (op : BinOp) (k : IntKind) (a b : Int) : Rd Res :=
  match op with
  | .and => .ok ⟨[], .int k (k.wrap (BitVec.ofInt k.bits a &&& BitVec.ofInt k.bits b).toNat), []⟩
  | .or => .ok ⟨[], .int k (k.wrap (BitVec.ofInt k.bits a ||| BitVec.ofInt k.bits b).toNat), []⟩
  | .xor => .ok ⟨[], .int k (k.wrap (BitVec.ofInt k.bits a ^^^ BitVec.ofInt k.bits b).toNat), []⟩
  | .andNot => .ok ⟨[], .int k (k.wrap (BitVec.ofInt k.bits a &&& ~~~BitVec.ofInt k.bits b).toNat), []⟩
  | _ => .bad

def intR (op : BinOp) (k : IntKind) (a b : Int) : Rd Res :=
  match op with
  | .add => .ok ⟨[], .int k (k.wrap (a + b)), []⟩
  | .sub => .ok ⟨[], .int k (k.wrap (a - b)), []⟩
  | .mul => .ok ⟨[], .int k (k.wrap (a * b)), []⟩
  | .quo => .ok ⟨[b ≠ 0], .int k (k.wrap (a.tdiv b)), []⟩
  | .rem => .ok ⟨[b ≠ 0], .int k (a.tmod b), []⟩
  | .eql => .ok ⟨[], .bool (decide (a = b)), []⟩
  | .neq => .ok ⟨[], .bool (!decide (a = b)), []⟩
  | .lss => .ok ⟨[], .bool (decide (a < b)), []⟩
  | .leq => .ok ⟨[], .bool (decide (a ≤ b)), []⟩
  | .gtr => .ok ⟨[], .bool (decide (b < a)), []⟩
  | .geq => .ok ⟨[], .bool (decide (b ≤ a)), []⟩
  | op => bitsR op k a b

def strR (op : BinOp) (x y : ByteArray) : Rd Res :=
  match op with
  | .eql => .ok ⟨[], .bool (x.toList == y.toList), []⟩
  | .neq => .ok ⟨[], .bool !(x.toList == y.toList), []⟩
  | .lss => .ok ⟨[], .bool (Op.bytesLess x.toList y.toList), []⟩
  | .leq => .ok ⟨[], .bool (Op.bytesLess x.toList y.toList || x.toList == y.toList), []⟩
  | .gtr => .ok ⟨[], .bool !(Op.bytesLess x.toList y.toList || x.toList == y.toList), []⟩
  | .geq => .ok ⟨[], .bool !(Op.bytesLess x.toList y.toList), []⟩
  | .add => .ok ⟨[x.size + y.size ≤ 1000000000000], .str (x ++ y), []⟩
  | _ => .bad

/-- Structs of numbers, bools and texts, compared. -/
def eqCells (l : List AV) : List AV → List Nat → Option Bool :=
  List.rec (motive := fun _ => List AV → List Nat → Option Bool) (fun q _ => match q with | [] => some true | _ :: _ => none)
    (fun v _ ih q ks => match q, ks with
      | u :: q, k :: ks => (match v, u, k with
        | .int i a, .int j b, 5 => (match kEq i j with | some _ => (match ih q ks with | some e => some (decide (a = b) && e) | none => none) | none => none)
        | .bool a, .bool b, 7 => (match ih q ks with | some e => some ((a == b) && e) | none => none)
        | .str a, .str b, 4 => (match ih q ks with | some e => some ((a.toList == b.toList) && e) | none => none)
        | _, _, _ => none)
      | _, _ => none) l
def eqlR (op : BinOp) (b : Bool) : Rd Res :=
  match op with
  | .eql => .ok ⟨[], .bool b, []⟩
  | .neq => .ok ⟨[], .bool !b, []⟩
  | _ => .bad

def binR (op : BinOp) (t : Nat) : AV → AV → Rd Res
  | .int k a, .int j b => match op with
    | .shl => .ok ⟨[0 ≤ b], .int k (k.wrap (a * 2 ^ (min b.toNat k.bits))), []⟩
    | .shr => .ok ⟨[0 ≤ b], .int k (a.fdiv (2 ^ (min b.toNat k.bits))), []⟩
    | op => match kEq k j with | some _ => intR op k a b | none => .bad
  | .str a, .str b => strR op a b
  | .bool a, .bool b => match (E.ti t).kind with | 7 => eqlR op (a == b) | _ => .bad
  | .agg a, .agg b => match andB (E.ti t).cmp (andB (Nat.beq (E.ti t).kind 3) (Nat.beq (llen a) (llen (E.ti t).flds))), eqCells a b (lmap (fun f : Nat × Nat => (E.ti f.2).kind) (E.ti t).flds) with
    | true, some e => eqlR op e
    | _, _ => .bad
  | .nilsl, .nilsl => match (E.ti t).kind with | 1 => eqlR op true | _ => .bad
  | .nsl _ _, .nilsl => match (E.ti t).kind with | 1 => eqlR op false | _ => .bad
  | _, _ => .bad

def unR (op : UnOp) : AV → Rd Res
  | .int k a => match op with
    | .neg => .ok ⟨[], .int k (k.wrap (0 - a)), []⟩
    | .xor => bitsR .xor k (if k.signed then -1 else k.max) a
    | _ => .bad
  | .bool a => match op with
    | .not => .ok ⟨[], .bool !a, []⟩
    | _ => .bad
  | _ => .bad

def convR (src dst : Nat) : AV → Rd Res
  | .int _ n => match andB (Nat.ble 1 (E.ti src).kind) (Nat.beq (E.ti dst).kind 5) with
    | true => .ok ⟨[], .int (E.ti dst).ik ((E.ti dst).ik.wrap n), []⟩
    | false => .bad
  | .str s => match (E.ti src).kind, (E.ti dst).kind with
    | 4, 4 => .ok ⟨[], .str s, []⟩
    | _, _ => .bad
  | _ => .bad

def makeR (t : Nat) (base : Nat) : AV → AV → Rd Res
  | .int _ l, .int _ c => match (E.ti t).kind with
    | 1 => match (E.ti (E.ti t).elem).ty with
      | some ty => match ty.ofCells (E.ti (E.ti t).elem).zero with
        | some (x, []) => (match andB (Nat.ble 1 (E.ti (E.ti t).elem).kind) (Nat.beq (E.ti (E.ti t).elem).size ty.size) with
          | true => .ok ⟨[0 ≤ l, l ≤ c, c * (E.ti (E.ti t).elem).bytes ≤ 70368744177664, c ≤ 70368744177664], .own base, [(base, some (.arr ty (List.replicate l.toNat x)))]⟩
          | false => .bad)
        | _ => .bad
      | none => .bad
    | _ => .bad
  | _, _ => .bad

/-- A table, all of its rows nil. -/
def makeTabR (t : Nat) (base : Nat) : AV → AV → Rd Res
  | .int _ l, .int _ c => match (E.ti t).kind with
    | 1 => match (E.ti (E.ti t).elem).ty with
      | some (.sl ty) => match (E.ti (E.ti t).elem).zero with
        | [.nilsl] => (match andB (Nat.ble 1 (E.ti (E.ti t).elem).kind) (Nat.beq (E.ti (E.ti t).elem).size 1) with
          | true => .ok ⟨[0 ≤ l, l ≤ c, c * (E.ti (E.ti t).elem).bytes ≤ 70368744177664, c ≤ 70368744177664], .own base, [(base, some (.tab ty l.toNat [] none))]⟩
          | false => .bad)
        | _ => .bad
      | _ => .bad
    | _ => .bad
  | _, _ => .bad

def sliceR (t : Nat) (base : Nat) : AV → Option AV → Option AV → Rd Res
  | .str s, some (.int _ l), some (.int _ h) => match (E.ti t).kind with | 4 => .ok ⟨[0 ≤ l, l ≤ h, h ≤ s.size], .str (s.extract l.toNat h.toNat), []⟩ | _ => .bad
  | .str s, none, some (.int _ h) => match (E.ti t).kind with | 4 => .ok ⟨[0 ≤ h, h ≤ s.size], .str (s.extract 0 h.toNat), []⟩ | _ => .bad
  | .str s, some (.int _ l), none => match (E.ti t).kind with | 4 => .ok ⟨[0 ≤ l, l ≤ s.size], .str (s.extract l.toNat s.size), []⟩ | _ => .bad
  | .sl ty xs, some (.int _ l), some (.int _ h) => match (E.ti t).kind, eqSize (E.ti (E.ti t).elem) ty with | 1, true => .ok ⟨[0 ≤ l, l ≤ h, h ≤ (xs.length : Int)], .sl ty ((xs.take h.toNat).drop l.toNat), []⟩ | _, _ => .bad
  | .sl ty xs, none, some (.int _ h) => match (E.ti t).kind, eqSize (E.ti (E.ti t).elem) ty with | 1, true => .ok ⟨[0 ≤ h, h ≤ (xs.length : Int)], .sl ty (xs.take h.toNat), []⟩ | _, _ => .bad
  | .sl ty xs, some (.int _ l), none => match (E.ti t).kind, eqSize (E.ti (E.ti t).elem) ty with | 1, true => .ok ⟨[0 ≤ l, l ≤ (xs.length : Int)], .sl ty (xs.drop l.toNat), []⟩ | _, _ => .bad
  | .own h, some (.int _ l), none => .get h fun o => match o with
    | some (.arr ty xs) => match (E.ti t).kind, eqSize (E.ti (E.ti t).elem) ty with
      | 1, true => (match E.ann 999996 with
        | none => .ok ⟨[0 ≤ l, l ≤ (xs.length : Int)], .own base, [(h, none), (base, some (.arr ty (xs.drop l.toNat)))]⟩
        | some _ => .ok ⟨[0 ≤ l, l ≤ (xs.length : Int)], .suf h l.toNat, []⟩)
      | _, _ => .bad
    | _ => .bad
  | .own h, none, some (.int _ n) => .get h fun o => match o with
    | some (.arr ty xs) => match (E.ti t).kind, eqSize (E.ti (E.ti t).elem) ty with
      | 1, true => (match E.ann 999999 with
        | none => .ok ⟨[0 ≤ n, n ≤ (xs.length : Int)], .pre h n.toNat, []⟩
        | some _ => .ok ⟨[0 ≤ n, n ≤ (xs.length : Int)], .own base, [(h, none), (base, some (.arr ty (xs.take n.toNat)))]⟩)
      | _, _ => .bad
    | _ => .bad
  | _, _, _ => .bad

def fieldAddrR (t f : Nat) : AV → Rd Res
  | .ptr h i c => match (E.ti t).kind, lget (E.ti t).flds f with
    | 3, some q => match andB (Nat.ble 1 (E.ti q.2).kind) (Nat.ble 1 (E.ti q.2).size) with | true => .ok ⟨[], .ptr h i (c + q.1), []⟩ | false => .bad
    | _, _ => .bad
  | .eptr ty x c => match (E.ti t).kind, lget (E.ti t).flds f with
    | 3, some q => match andB (Nat.ble 1 (E.ti q.2).kind) (Nat.ble 1 (E.ti q.2).size) with | true => .ok ⟨[], .eptr ty x (c + q.1), []⟩ | false => .bad
    | _, _ => .bad
  | _ => .bad

def fieldR (t f : Nat) : AV → Rd Res
  | .agg cs => match (E.ti t).kind, lget (E.ti t).flds f with
    | 3, some q => takeR E q.2 (ldrop cs q.1)
    | _, _ => .bad
  | _ => .bad

def indexAddrR (t : Nat) : AV → AV → Rd Res
  | .sl ty xs, .int _ i => match (E.ti t).kind, eqSize (E.ti (E.ti t).elem) ty with
    | 1, true => .ok ⟨[0 ≤ i, i < (xs.length : Int)], .eptr ty (rd ty xs i.toNat) 0, []⟩
    | _, _ => .bad
  | .own h, .int _ i => .get h fun o => match o with
    | some (.arr ty xs) => match (E.ti t).kind, eqSize (E.ti (E.ti t).elem) ty with
      | 1, true => .ok ⟨[0 ≤ i, i < (xs.length : Int)], .ptr h i.toNat 0, []⟩
      | _, _ => .bad
    | some (.tab ty n xss act) => match (E.ti t).kind, eqSize (E.ti (E.ti t).elem) (.sl ty) with
      | 1, true => .ok ⟨[0 ≤ i, i < (n : Int)], .ptr h i.toNat 0, []⟩
      | _, _ => .bad
    | _ => .bad
  | .suf h l, .int _ i => .get h fun o => match o with
    | some (.arr ty xs) => match (E.ti t).kind, eqSize (E.ti (E.ti t).elem) ty with
      | 1, true => .ok ⟨[0 ≤ i, (l : Int) + i < (xs.length : Int)], .ptr h (l + i.toNat) 0, []⟩
      | _, _ => .bad
    | _ => .bad
  | _, _ => .bad

def byteAt (s : ByteArray) (i : Nat) : Int := ((s.data.toList.getD i 0).toNat : Int)
/-- The i-th of some numbers. -/
def intsOf (k : IntKind) (l : List AV) : Option (List Int) :=
  List.rec (motive := fun _ => Option (List Int)) (some []) (fun v _ ih => match v with
    | .int j n => (match kEq k j with | some _ => (match ih with | some l => some (n :: l) | none => none) | none => none)
    | _ => none) l
def indexR (t : Nat) : AV → AV → Rd Res
  | .str s, .int _ i => match (E.ti t).kind with
    | 4 => .ok ⟨[0 ≤ i, i < (s.size : Int)], .int .u8 (byteAt s i.toNat), []⟩
    | _ => .bad
  | .agg cs, .int _ i => match (E.ti t).kind, (E.ti (E.ti t).elem).kind, intsOf (E.ti (E.ti t).elem).ik cs with
    | 2, 5, some ns => match andB (Nat.beq (E.ti (E.ti t).elem).size 1) (Nat.beq (E.ti t).len (llen ns)) with
      | true => .ok ⟨[0 ≤ i, i < ((E.ti t).len : Int)], .int (E.ti (E.ti t).elem).ik (ns.getD i.toNat 0), []⟩
      | false => .bad
    | _, _, _ => .bad
  | _, _ => .bad

/-- What a slice holds. -/
def itemsR (ty : Ty) : AV → Rd (List ty.D)
  | .nilsl => .ok []
  | .nsl u ys => match u.eqv ty with | some ⟨e⟩ => e ▸ .ok ys | none => .bad
  | .sl u ys => match u.eqv ty with | some ⟨e⟩ => e ▸ .ok ys | none => .bad
  | .own h => .get h fun o => match o with
    | some (.arr u ys) => (match u.eqv ty with | some ⟨e⟩ => e ▸ .ok ys | none => .bad)
    | _ => .bad
  | .pre h n => .get h fun o => match o with
    | some (.arr u ys) => (match u.eqv ty with | some ⟨e⟩ => e ▸ .ok (ys.take n) | none => .bad)
    | _ => .bad
  | _ => .bad
/-- A row of bytes as a text. -/
def convBR (src dst : Nat) (x : AV) : Rd Res :=
  match Nat.beq (E.ti dst).kind 4, Nat.beq (E.ti (E.ti src).elem).kind 5, kEq (E.ti (E.ti src).elem).ik .u8 with
  | true, true, some _ => (itemsR (.int .u8) x).bind fun xs => .ok ⟨[], .str (strOfNums xs), []⟩
  | _, _, _ => .bad
/-- What a slice holds that is appended to: an own one is used up. -/
def sourceR (ty : Ty) : AV → Rd (List ty.D × List (Nat × Option Ob))
  | .nilsl => .ok ([], [])
  | .own h => .get h fun o => match o with
    | some (.arr u ys) => (match u.eqv ty with | some ⟨e⟩ => e ▸ .ok (ys, [(h, none)]) | none => .bad)
    | _ => .bad
  | _ => .bad

def appendR (t : Nat) (base : Nat) (s x : AV) : Rd Res :=
  match (E.ti t).kind with
  | 1 => match (E.ti (E.ti t).elem).ty with
    | some ty => match andB (eqSize (E.ti (E.ti t).elem) ty) (andB (Nat.ble 1 (llen (E.ti (E.ti t).elem).zero)) (Nat.beq (llen (E.ti (E.ti t).elem).zero) ty.size)) with
      | true => (sourceR ty s).bind fun a => (itemsR ty x).bind fun ys =>
        .ok ⟨[(a.1.length + ys.length) * (E.ti (E.ti t).elem).bytes ≤ 70368744177664, a.1.length + ys.length ≤ 70368744177664], .own base, lapp a.2 [(base, some (.arr ty (a.1 ++ ys)))]⟩
      | false => .bad
    | none => .bad
  | _ => .bad

def otherThan (h : Nat) : AV → Bool
  | .own g => match Nat.beq g h with | true => false | false => true
  | .pre _ _ => false
  | .suf _ _ => false
  | _ => true
def copyR (t : Nat) (d x : AV) : Rd Res :=
  match (E.ti t).kind with
  | 1 => match d with
    | .own h => .get h fun o => match o with
      | some (.arr ty xs) => match andB (eqSize (E.ti (E.ti t).elem) ty) (otherThan h x) with
        | true => (itemsR ty x).bind fun ys =>
          .ok ⟨[], .int .i64 ((min ys.length xs.length : Nat) : Int), [(h, some (.arr ty (ys.take xs.length ++ xs.drop ys.length)))]⟩
        | false => .bad
      | _ => .bad
    | _ => .bad
  | _ => .bad

def lenR (t : Nat) : AV → Rd Res
  | .sl _ xs => match (E.ti t).kind with | 1 => .ok ⟨[], .int .i64 (xs.length : Int), []⟩ | _ => .bad
  | .nilsl => match (E.ti t).kind with | 1 => .ok ⟨[], .int .i64 0, []⟩ | _ => .bad
  | .own h => .get h fun o => match o with
    | some (.arr _ xs) => match (E.ti t).kind with | 1 => .ok ⟨[], .int .i64 (xs.length : Int), []⟩ | _ => .bad
    | _ => .bad
  | .str s => match (E.ti t).kind with | 4 => .ok ⟨[], .int .i64 (s.size : Int), []⟩ | _ => .bad
  | _ => .bad

def foldInts (f : Int → Int → Int) (k : IntKind) (l : List AV) : Int → Option Int :=
  List.rec (motive := fun _ => Int → Option Int) (fun a => some a) (fun v _ ih a => match v with
    | .int j b => (match kEq k j with | some _ => ih (f a b) | none => none)
    | _ => none) l
def max2 (a b : Int) : Int := if b > a then b else a
def min2 (a b : Int) : Int := if b < a then b else a

def builtinR (b : Builtin) (ts : List Nat) (base : Nat) (args : List AV) : Rd Res :=
  match b, ts, args with
  | .append, [t, u], [s, x] => match Nat.beq (E.ti u).kind 1 with | true => appendR E t base s x | false => .bad
  | .copy, [t, _], [d, x] => copyR E t d x
  | .len, t :: _, [x] => lenR E t x
  | .max, _, .int k a :: r => match foldInts max2 k r a with | some n => .ok ⟨[], .int k n, []⟩ | none => .bad
  | .min, _, .int k a :: r => match foldInts min2 k r a with | some n => .ok ⟨[], .int k n, []⟩ | none => .bad
  | _, _, _ => .bad

/-- The arguments of a function, read. -/
def oneArg (t : Ty) (v : AV) : Option t.D :=
  match t, v with
  | .one a, .agg cs => match (Ty.one a).ofCells cs with | some (x, []) => some x | _ => none
  | .fld a r, .agg cs => match (Ty.fld a r).ofCells cs with | some (x, []) => some x | _ => none
  | .int k, v => match (Ty.int k).ofCells [v] with | some (x, []) => some x | _ => none
  | .bool, v => match Ty.bool.ofCells [v] with | some (x, []) => some x | _ => none
  | .str, v => match Ty.str.ofCells [v] with | some (x, []) => some x | _ => none
  | .sl t, v => match (Ty.sl t).ofCells [v] with | some (x, []) => some x | _ => none
  | _, _ => none
def allArgs (t : Ty) : List AV → Option t.D :=
  Ty.rec (motive := fun t => List AV → Option t.D) (fun _ _ => none) (fun vs => match vs with | [] => some false | _ :: _ => none) (fun _ => none) (fun _ _ _ => none)
    (fun a _ vs => match vs with | [] => none | v :: q => (match q with | [] => oneArg a v | _ :: _ => none))
    (fun a _ _ jh vs => match vs with
      | [] => none
      | v :: q => (match oneArg a v with
        | some x => (match jh q with | some y => some (x, y) | none => none)
        | none => none)) t
def viewArgs (l : List AV) : Rd (List AV) :=
  List.rec (motive := fun _ => Rd (List AV)) (.ok []) (fun v _ ih => match v with
    | .agg cs => (viewR cs).bind fun l => ih.bind fun q => .ok (.agg l :: q)
    | v => (viewR [v]).bind fun l => ih.bind fun q => .ok (lapp l q)) l

/-- The answers of a function, told: each slice is the caller's own. -/
def oneRes : (t : Ty) → t.D → AV
  | .one a, x => .agg (a.toCells x)
  | .fld a r, x => .agg ((Ty.fld a r).toCells x)
  | .int k, n => .int k n
  | .bool, b => .bool b
  | .str, s => .str s
  | .sl t, xs => .sl t xs
def allRes (t : Ty) : t.D → List AV :=
  Ty.rec (motive := fun t => t.D → List AV) (fun _ _ => []) (fun _ => []) (fun _ => []) (fun _ _ _ => [])
    (fun a _ x => [oneRes a x]) (fun a _ _ jh x => oneRes a x.1 :: jh x.2) t
def adoptCells (l : List AV) : Nat → List AV × List (Nat × Option Ob) × Nat :=
  List.rec (motive := fun _ => Nat → List AV × List (Nat × Option Ob) × Nat) (fun n => ([], [], n)) (fun v _ ih n => match v with
    | .sl t xs => (match ih (n + 1) with | (l, u, m) => (.own n :: l, (n, some (.arr t xs)) :: u, m))
    | v => (match ih n with | (l, u, m) => (v :: l, u, m))) l
def adopt (l : List AV) : Nat → List AV × List (Nat × Option Ob) × Nat :=
  List.rec (motive := fun _ => Nat → List AV × List (Nat × Option Ob) × Nat) (fun n => ([], [], n)) (fun v _ ih n => match v with
    | .agg cs => (match adoptCells cs n with
      | (l, u, m) => (match ih m with | (l', u', m') => (.agg l :: l', lapp u u', m')))
    | v => (match adoptCells [v] n with
      | (l, u, m) => (match ih m with | (l', u', m') => (lapp l l', lapp u u', m')))) l
def tupOf : List AV → AV
  | [v] => v
  | vs => .tup vs

/-- No view of an own row. -/
def notOwn (v : AV) : Bool := match v with | .own _ => false | .pre _ _ => false | .suf _ _ => false | _ => true
def noOwn (l : List AV) : Bool := lall (fun v => match v with
  | .own _ => false
  | .pre _ _ => false
  | .suf _ _ => false
  | .agg cs => lall notOwn cs
  | _ => true) l

def orB (a b : Bool) : Bool := match a with | true => true | false => b
def clean1 : AV → Bool
  | .int _ _ => true | .bool _ => true | .str _ => true | .own _ => true
  | _ => false
def clean2 : AV → Bool
  | .agg cs => lall clean1 cs
  | v => clean1 v
def isArr (p : Nat × Option Ob) : Bool := match p.2 with | some (.arr _ _) => true | _ => false
def isFlat (p : Nat × Option Ob) : Bool := match p.2 with | some (.arr t _) => t.flat | _ => false
def callK (k : Fn1) (args : List AV) (base : Nat) : Rd Res :=
  (viewArgs args).bind fun vs => match allArgs k.ins vs with
      | some a => match andB (andB (Nat.ble (adopt (allRes k.outs (k.res a)) base).2.2 (base + 8)) (lall isArr (adopt (allRes k.outs (k.res a)) base).2.1))
          (orB (andB (lall clean2 (adopt (allRes k.outs (k.res a)) base).1) (lall isFlat (adopt (allRes k.outs (k.res a)) base).2.1)) (noOwn args)) with
        | true => .ok ⟨k.pre a, tupOf (adopt (allRes k.outs (k.res a)) base).1, (adopt (allRes k.outs (k.res a)) base).2.1⟩
        | false => .bad
      | none => .bad
def isFn (g : Nat) : AV → Bool
  | .fn f caps => match caps with | [] => Nat.beq f g | _ :: _ => false
  | _ => false
def dropFn (g : Nat) (args : List AV) : Option (List AV) :=
  List.rec (motive := fun _ => Option (List AV)) none (fun v l ih => match l with
    | [] => (match isFn g v with | true => some [] | false => none)
    | _ :: _ => (match ih with | some r => some (v :: r) | none => none)) args
def callR (f : Nat) (args : List AV) (base : Nat) : Rd Res :=
  match findK E.K f with
  | some (.plain k) => callK k args base
  | some (.fixd g k) => (match dropFn g args with | some as => callK k as base | none => .bad)
  | some (.eff X) => X args base
  | none => .bad

/-- Keys of maps: structs of numbers. -/
def Ty.eqD (t : Ty) : t.D → t.D → Bool :=
  Ty.rec (motive := fun t => t.D → t.D → Bool) (fun _ (a b : Int) => decide (a = b)) (fun (a b : Bool) => a == b) (fun (a b : ByteArray) => a.toList == b.toList) (fun _ _ _ _ => false) (fun _ ih => ih) (fun _ _ ih jh x y => ih x.1 y.1 && jh x.2 y.2) t
def keyOk (t : Ty) : List Nat → Bool :=
  Ty.rec (motive := fun _ => List Nat → Bool) (fun _ ks => match ks with | [] => false | k :: q => (match q with | [] => Nat.beq k 5 | _ :: _ => false)) (fun _ => false) (fun _ => false) (fun _ _ _ => false) (fun _ ih ks => ih ks)
    (fun _ _ ih jh ks => match ks with | [] => false | k :: q => andB (ih [k]) (jh q)) t
def mget (k v : Ty) (es : List (k.D × v.D)) (x : k.D) : Option v.D := List.rec (motive := fun _ => Option v.D) none (fun e _ ih => match k.eqD x e.1 with | true => some e.2 | false => ih) es
def optOr {α : Type} (o : Option α) (d : α) : α := match o with | some x => x | none => d
def isOk {α : Type} (o : Option α) : Bool := match o with | some _ => true | none => false
def plainKind (k : Nat) : Bool := match k with | 4 => true | 5 => true | 7 => true | _ => false
def bareTy : Ty → Bool
  | .int _ => true | .bool => true | .str => true | _ => false
def isStr : Ty → Bool
  | .str => true | _ => false
def keyTy (kt : Nat) (k : Ty) : Bool :=
  orB (andB (isStr k) (Nat.beq (E.ti kt).kind 4)) (andB (Nat.beq (E.ti kt).kind 3) (andB (E.ti kt).cmp (keyOk k (lmap (fun f : Nat × Nat => (E.ti f.2).kind) (E.ti kt).flds))))
def mapOk (t : Nat) (k v : Ty) : Bool :=
  andB (Nat.beq (E.ti t).kind 6) (andB (keyTy E (E.ti t).len k)
    (andB (plainKind (E.ti (E.ti t).elem).kind) (andB (E.ti (E.ti t).elem).z1 (bareTy v))))
def makeMapR (t : Nat) (base : Nat) : Rd Res :=
  match (E.ti (E.ti t).len).ty, (E.ti (E.ti t).elem).ty with
  | some k, some v => (match mapOk E t k v with | true => .ok ⟨[], .mp base, [(base, some (.mp k v []))]⟩ | false => .bad)
  | _, _ => .bad
def eqB (a b : Bool) : Bool := match a with | true => b | false => (match b with | true => false | false => true)
def lookAt (t : Nat) (c : Bool) (st : Bool) (x : List AV) : Option Ob → Rd Res
  | some (.mp k v es) => match andB (eqB (isStr k) st) (mapOk E t k v), k.ofCells x, v.ofCells (E.ti (E.ti t).elem).zero with
    | true, some (a, []), some (z, []) => (match c with
      | true => .ok ⟨[], .tup [oneRes v (optOr (mget k v es a) z), .bool (isOk (mget k v es a))], []⟩
      | false => .ok ⟨[], oneRes v (optOr (mget k v es a) z), []⟩)
    | _, _, _ => .bad
  | _ => .bad
def lookR (t : Nat) (c : Bool) : AV → AV → Rd Res
  | .mp h, .agg x => .get h fun o => lookAt E t c false x o
  | .mp h, .str x => .get h fun o => lookAt E t c true [.str x] o
  | _, _ => .bad
def putAt (t h : Nat) (st : Bool) (x : List AV) (y : AV) : Option Ob → Rd Res
  | some (.mp k v es) => match andB (eqB (isStr k) st) (mapOk E t k v), k.ofCells x, v.ofCells [y] with
    | true, some (a, []), some (b, []) => .ok ⟨[isOk (mget k v es a) = false], .undef, [(h, some (.mp k v (es ++ [(a, b)])))]⟩
    | _, _, _ => .bad
  | _ => .bad
def putR (t : Nat) : AV → AV → AV → Rd Res
  | .mp h, .agg x, y => .get h fun o => putAt E t h false x y o
  | .mp h, .str x, y => .get h fun o => putAt E t h true [.str x] y o
  | _, _, _ => .bad

/-- Is a type one whose new variables are told with it (E.ann 999997)? -/
def typed (e : Nat) : Bool := match E.ann 999997 with
  | some a => List.rec (motive := fun _ => Bool) false (fun m _ ih => match Nat.beq e m with | true => true | false => ih) a.1
  | none => false
def allocTR (e base : Nat) (z : AV) (zs : List AV) : Rd Res :=
  match z with
  | .nilp => match zs with
    | [.nilsl] => .ok ⟨[], .ptr base 0 0, [(base, some (.tbx e none))]⟩
    | _ => .bad
  | _ => .bad
def opR (o : Op) (args : List AV) (base : Nat) : Rd Res :=
  match o, args with
  | .move _, [v] => .ok ⟨[], v, []⟩
  | .assign _, [v] => .ok ⟨[], v, []⟩
  | .pick .., [.bool c, a, b] => match a, b with
    | .bool x, .bool y => .ok ⟨[], .bool (cond c x y), []⟩
    | a, b => match c with | true => .ok ⟨[], a, []⟩ | false => .ok ⟨[], b, []⟩
  | .alloc e, [] => match (E.ti e).kind, (E.ti e).zero with
    | 0, _ => .bad
    | _, [] => .bad
    | _, z :: zs => match typed E e with
      | false => .ok ⟨[], .ptr base 0 0, [(base, some (.box (z :: zs)))]⟩
      | true => allocTR e base z zs
  | .box e _, [v] => match lall AV.cell (cellsOf v) with
    | true => .ok ⟨[], .ptr base 0 0, [(base, some (.box (cellsOf v)))]⟩
    | false => .bad
  | .build t ps, vs => buildR E t (lzip (lmap Prod.fst ps.toList) vs)
  | .buildSlice t 0 _, [] => emptyR E t base
  | .buildSlice t len ps, vs => buildSliceR E t len (lzip (lmap Prod.fst ps.toList) vs) base
  | .load t _, [a] => loadR E t a
  | .store t _ _, [a, v] => storeR E t v a
  | .nilCheck _, [.ptr h i c] => .ok ⟨[], .ptr h i c, []⟩
  | .nilCheck _, [.fn f cs] => .ok ⟨[], .fn f cs, []⟩
  | .binOp op t _ _ _, [a, b] => binR E op t a b
  | .unOp op _ _, [a] => unR op a
  | .convert s d _, [a] => match (E.ti s).kind with
    | 1 => convBR E s d a
    | _ => convR E s d a
  | .makeFunc (.func f) first _, vs => match Nat.beq first.size 0 with | true => .ok ⟨[], .fn f vs, []⟩ | false => .bad
  | .makeSlice t _ _, [l, c] => match E.ann 999998 with
    | none => makeR E t base l c
    | some _ => makeTabR E t base l c
  | .slice _ _ none none none, [_] => .bad
  | .slice t _ (some _) none none, [x, l] => sliceR E t base x (some l) none
  | .slice t _ none (some _) none, [x, h] => sliceR E t base x none (some h)
  | .slice t _ (some _) (some _) none, [x, l, h] => sliceR E t base x (some l) (some h)
  | .fieldAddr t _ f, [a] => fieldAddrR E t f a
  | .field t _ f, [a] => fieldR E t f a
  | .indexAddr t _ _, [x, i] => indexAddrR E t x i
  | .index t _ _, [x, i] => indexR E t x i
  | .extract _ i, [.tup vs] => match lget vs i with | some v => .ok ⟨[], v, []⟩ | none => .bad
  | .call c, vs => match c.callee with
    | .builtin b => builtinR E b c.argTypes.toList base vs
    | .value _ => (match vs with
      | .fn f caps :: q => callR E f (lapp q caps) base
      | _ => .bad)
    | .invoke _ _ => .bad
  | .makeMap t none, [] => makeMapR E t base
  | .lookup t _ _ c, [m, x] => lookR E t c m x
  | .mapUpdate t _ _ _, [m, x, y] => putR E t m x y
  | _, _ => .bad
end ops

structure S where
  slots : List AV
  heap : Nat → Option Ob
  next : Nat

def S.put (s : S) (d : Option Tmp) (v : AV) : S :=
  match d with
  | some d => { s with slots := lset v s.slots d }
  | none => s
def upd (H : Nat → Option Ob) (h : Nat) (o : Option Ob) : Nat → Option Ob := fun n => match Nat.beq n h with | true => o | false => H n
def upds (H : Nat → Option Ob) : List (Nat × Option Ob) → (Nat → Option Ob)
  | [] => H
  | (h, o) :: r => upds (upd H h o) r
def S.ev (s : S) : Operand → AV
  | .tmp t => (match lget s.slots t with | some v => v | none => .undef)
  | .const v => ofValue v
  | .global _ => .undef
  | .func f => .fn f []

def allP (l : List Prop) (K : Prop) : Prop := List.rec (motive := fun _ => Prop) K (fun p _ ih => p ∧ ih) l

def natK {R : Sort 1} (n : Nat) (k : Nat → R) : R := match n with | 0 => k 0 | m + 1 => k (m + 1)
theorem natK_eq {R : Sort 1} (n : Nat) (k : Nat → R) : natK n k = k n := by cases n <;> rfl
/-- What an operation does: what it asks for, what is then, the names that it looks at, the names that it writes. -/
structure Fx where
  ps : List Prop
  s : S
  rs : List Nat
  ws : List Nat
/-- Is it carried out? -/
def wantedOf (ops : Array Oper) (o : Oper) (sl : List AV) : Option Bool :=
  match o.guard with
  | none => some true
  | some (j, want) => match ((ops[j]?).bind (·.dst)).bind (fun d => sl[d]?) with
    | some (.bool b) => some (b == want)
    | some (.tup []) => some false
    | _ => none
/-- One operation, in whatever order. -/
def exec (E : Env) (ops : Array Oper) (base : Nat) (i : Nat) (s : S) : Option Fx :=
  match ops[i]? with
  | none => some ⟨[], s, [], []⟩
  | some o =>
    match wantedOf ops o s.slots with
    | some true => (match (opR E o.op (o.op.operands.toList.map s.ev) (base + 8 * i)).run s.heap with
      | some r => some ⟨r.ps, { s.put o.dst r.val with heap := upds s.heap r.ups }, (opR E o.op (o.op.operands.toList.map s.ev) (base + 8 * i)).reads s.heap, r.ups.map Prod.fst⟩
      | none => none)
    | some false => some ⟨[], s.put o.dst (.tup []), [], []⟩
    | none => none

def runL (E : Env) (ops : Array Oper) (base : Nat) (K : S → Prop) : List Nat → S → Prop
  | [], s => K s
  | i :: l, s => match exec E ops base i s with
    | some x => (∀ p ∈ x.ps, p) ∧ runL E ops base K l x.s
    | none => False

def hasN (n : Nat) (l : List Nat) : Bool := List.rec (motive := fun _ => Bool) false (fun m _ ih => match Nat.beq n m with | true => true | false => ih) l
def disj (l q : List Nat) : Bool := lall (fun n => match hasN n q with | true => false | false => true) l
/-- Which operations come before one for sure: a bit for each. -/
def maskOf (after : List Edge) (acc : List Nat) : Nat :=
  List.rec (motive := fun _ => Nat) 0 (fun e _ ih => match Region.binds .any e with
    | true => (match lget acc e.on with | some m => Nat.lor (Nat.lor ih (Nat.shiftLeft 1 e.on)) m | none => ih)
    | false => ih) after
def masks (os : List Oper) : List Nat → List Nat :=
  List.rec (motive := fun _ => List Nat → List Nat) (fun acc => acc) (fun o _ ih acc => natK (maskOf o.after.toList acc) fun m => ih (lapp acc [m])) os
abbrev Foot := List (Nat × List Nat × List Nat)
def okAcc (mask : Nat) (R W : List Nat) (acc : Foot) : Bool :=
  match R, W with
  | [], [] => true
  | R, W => lall (fun f => match Nat.beq (Nat.land (Nat.shiftRight mask f.1) 1) 1 with
    | true => true
    | false => andB (disj f.2.2 R) (andB (disj f.2.2 W) (disj W f.2.1))) acc
def pushAcc (i : Nat) (R W : List Nat) (acc : Foot) : Foot :=
  match R, W with
  | [], [] => acc
  | R, W => (i, R, W) :: acc
/-- The same, no two operations that either order serves being in one another's way. -/
def runD (E : Env) (ops : Array Oper) (ms : List Nat) (base : Nat) (K : S → Prop) : List Nat → S → Foot → Prop
  | [], s, _ => K s
  | i :: l, s, acc => match exec E ops base i s with
    | some x => okAcc (match lget ms i with | some m => m | none => 0) x.rs x.ws acc = true ∧ (∀ p ∈ x.ps, p) ∧ runD E ops ms base K l x.s (pushAcc i x.rs x.ws acc)
    | none => False

/-- An abstract value, laid bare before it is kept. -/
def bare {R : Sort 1} (v : AV) (k : AV → R) : R :=
  match v with
  | .undef => k .undef | .int a b => k (.int a b) | .bool b => k (.bool b) | .str b => k (.str b) | .sl a b => k (.sl a b) | .nsl a b => k (.nsl a b) | .nilsl => k .nilsl
  | .own h => k (.own h) | .pre a b => k (.pre a b) | .suf a b => k (.suf a b) | .ptr a b c => k (.ptr a b c) | .eptr a b c => k (.eptr a b c) | .nilp => k .nilp | .mp h => k (.mp h) | .nilmp => k .nilmp
  | .fn a b => k (.fn a b) | .agg a => k (.agg a) | .tup a => k (.tup a)
theorem bare_eq {R : Sort 1} (v : AV) (k : AV → R) : bare v k = k v := by cases v <;> rfl
def bares {R : Sort 1} (l : List AV) : (List AV → R) → R :=
  List.rec (motive := fun _ => (List AV → R) → R) (fun k => k []) (fun v _ ih k => bare v fun v => ih fun l => k (v :: l)) l
theorem bares_eq {R : Sort 1} (l : List AV) : ∀ k : List AV → R, bares l k = k l := by
  induction l with
  | nil => intro k; rfl
  | cons v l ih =>
    intro k
    show bare v (fun v => bares l fun l => k (v :: l)) = k (v :: l)
    rw [bare_eq]
    exact ih _
def bare2 {R : Sort 1} (v : AV) (k : AV → R) : R :=
  match v with
  | .agg cs => bares cs fun l => k (.agg l)
  | .tup cs => bares cs fun l => k (.tup l)
  | v => bare v k
theorem bare2_eq {R : Sort 1} (v : AV) (k : AV → R) : bare2 v k = k v := by cases v <;> simp [bare2, bares_eq, bare_eq]

/-- The state of a walk: all laid bare. -/
structure SL where
  slots : List AV
  heap : List (Nat × Ob)
  next : Nat
def hget (l : List (Nat × Ob)) : Nat → Option Ob :=
  List.rec (motive := fun _ => Nat → Option Ob) (fun _ => none) (fun p _ ih n => match Nat.beq n p.1 with | true => some p.2 | false => ih n) l
def hset (h : Nat) (l : List (Nat × Ob)) : Option Ob → List (Nat × Ob) :=
  List.rec (motive := fun _ => Option Ob → List (Nat × Ob)) (fun o => match o with | some ob => [(h, ob)] | none => [])
    (fun p r ih o => match Nat.beq h p.1 with
      | true => (match o with | some ob => (h, ob) :: r | none => ih none)
      | false => p :: ih o) l
def hsetK {R : Sort 1} (h : Nat) (l : List (Nat × Ob)) : Option Ob → (List (Nat × Ob) → R) → R :=
  List.rec (motive := fun _ => Option Ob → (List (Nat × Ob) → R) → R) (fun o k => match o with | some ob => k [(h, ob)] | none => k [])
    (fun p r ih o k => match Nat.beq h p.1 with
      | true => (match o with | some ob => k ((h, ob) :: r) | none => ih none k)
      | false => ih o fun r => k (p :: r)) l
theorem hsetK_eq {R : Sort 1} (h : Nat) (l : List (Nat × Ob)) : ∀ (o : Option Ob) (k : List (Nat × Ob) → R), hsetK h l o k = k (hset h l o) := by
  induction l with
  | nil => intro o k; cases o <;> rfl
  | cons p r ih =>
    intro o k
    show (match Nat.beq h p.1 with
      | true => (match o with | some ob => k ((h, ob) :: r) | none => hsetK h r none k)
      | false => hsetK h r o fun r => k (p :: r)) = k (match Nat.beq h p.1 with
      | true => (match o with | some ob => (h, ob) :: r | none => hset h r none)
      | false => p :: hset h r o)
    cases Nat.beq h p.1 with
    | true => cases o with
      | some ob => rfl
      | none => exact ih none k
    | false => exact ih o _
def hsets (u : List (Nat × Option Ob)) : List (Nat × Ob) → List (Nat × Ob) :=
  List.rec (motive := fun _ => List (Nat × Ob) → List (Nat × Ob)) (fun l => l) (fun p _ ih l => ih (hset p.1 l p.2)) u
def bareAct {R : Sort 1} (a : Option (Option Nat)) (k : Option (Option Nat) → R) : R :=
  match a with
  | none => k none
  | some none => k (some none)
  | some (some a) => natK a fun a => k (some (some a))
theorem bareAct_eq {R : Sort 1} (a : Option (Option Nat)) (k : Option (Option Nat) → R) : bareAct a k = k a := by
  match a with
  | none => rfl
  | some none => rfl
  | some (some a) =>
    show natK a (fun a => k (some (some a))) = _
    rw [natK_eq]
/-- The changes of an operation, made. -/
def hsetsK {R : Sort 1} (u : List (Nat × Option Ob)) : List (Nat × Ob) → (List (Nat × Ob) → R) → R :=
  List.rec (motive := fun _ => List (Nat × Ob) → (List (Nat × Ob) → R) → R) (fun l k => k l)
    (fun p _ ih l k => natK p.1 fun h => match p.2 with
      | none => hsetK h l none fun l => ih l k
      | some (.box cs) => bares cs fun cs => hsetK h l (some (.box cs)) fun l => ih l k
      | some (.arr t xs) => hsetK h l (some (.arr t xs)) fun l => ih l k
      | some (.mp a b es) => hsetK h l (some (.mp a b es)) fun l => ih l k
      | some (.tab t n xss act) => bareAct act fun act => hsetK h l (some (.tab t n xss act)) fun l => ih l k
      | some (.tbx T act) => bareAct act fun act => hsetK h l (some (.tbx T act)) fun l => ih l k
      | some (.trow e xs) => hsetK h l (some (.trow e xs)) fun l => ih l k) u
theorem hsetsK_eq {R : Sort 1} (u : List (Nat × Option Ob)) : ∀ (l : List (Nat × Ob)) (k : List (Nat × Ob) → R), hsetsK u l k = k (hsets u l) := by
  induction u with
  | nil => intro l k; rfl
  | cons p r ih =>
    intro l k
    obtain ⟨h, o⟩ := p
    show natK h (fun h => match o with
      | none => hsetK h l none fun l => hsetsK r l k
      | some (.box cs) => bares cs fun cs => hsetK h l (some (.box cs)) fun l => hsetsK r l k
      | some (.arr t xs) => hsetK h l (some (.arr t xs)) fun l => hsetsK r l k
      | some (.mp a b es) => hsetK h l (some (.mp a b es)) fun l => hsetsK r l k
      | some (.tab t n xss act) => bareAct act fun act => hsetK h l (some (.tab t n xss act)) fun l => hsetsK r l k
      | some (.tbx T act) => bareAct act fun act => hsetK h l (some (.tbx T act)) fun l => hsetsK r l k
      | some (.trow e xs) => hsetK h l (some (.trow e xs)) fun l => hsetsK r l k) = k (hsets r (hset h l o))
    rw [natK_eq]
    cases o with
    | none => exact (hsetK_eq h l none _).trans (ih _ k)
    | some o => cases o with
      | box cs =>
        show bares cs (fun cs => hsetK h l (some (.box cs)) fun l => hsetsK r l k) = _
        rw [bares_eq]
        exact (hsetK_eq h l _ _).trans (ih _ k)
      | arr t xs => exact (hsetK_eq h l _ _).trans (ih _ k)
      | mp a b es => exact (hsetK_eq h l _ _).trans (ih _ k)
      | tab t n xss act =>
        show bareAct act (fun act => hsetK h l (some (.tab t n xss act)) fun l => hsetsK r l k) = _
        rw [bareAct_eq]
        exact (hsetK_eq h l _ _).trans (ih _ k)
      | tbx T act =>
        show bareAct act (fun act => hsetK h l (some (.tbx T act)) fun l => hsetsK r l k) = _
        rw [bareAct_eq]
        exact (hsetK_eq h l _ _).trans (ih _ k)
      | trow e xs => exact (hsetK_eq h l _ _).trans (ih _ k)
def setK {R : Sort 1} (v : AV) (l : List AV) : Nat → (List AV → R) → R :=
  List.rec (motive := fun _ => Nat → (List AV → R) → R) (fun _ k => k []) (fun a l ih n k => match n with
    | 0 => k (v :: l)
    | m + 1 => ih m fun l => k (a :: l)) l
theorem setK_eq {R : Sort 1} (v : AV) (l : List AV) : ∀ (n : Nat) (k : List AV → R), setK v l n k = k (lset v l n) := by
  induction l with
  | nil => intro n k; rfl
  | cons a l ih => intro n k; cases n with | zero => rfl | succ n => exact ih n _
def putK {R : Sort 1} (d : Option Tmp) (v : AV) (l : List AV) (k : List AV → R) : R :=
  match d with
  | some d => setK v l d k
  | none => k l
def putL (d : Option Tmp) (v : AV) (l : List AV) : List AV := match d with | some d => lset v l d | none => l
theorem putK_eq {R : Sort 1} (d : Option Tmp) (v : AV) (l : List AV) (k : List AV → R) : putK d v l k = k (putL d v l) := by
  cases d
  · rfl
  · exact setK_eq _ _ _ _
def SL.s (s : SL) : S := ⟨s.slots, hget s.heap, s.next⟩
def evL (l : List AV) : Operand → AV
  | .tmp t => (match lget l t with | some v => v | none => .undef)
  | .const v => ofValue v
  | .global _ => .undef
  | .func f => .fn f []
def evsK {R : Sort 1} (l : List AV) (os : List Operand) : (List AV → R) → R :=
  List.rec (motive := fun _ => (List AV → R) → R) (fun k => k []) (fun o _ ih k => bare2 (evL l o) fun v => ih fun vs => k (v :: vs)) os
theorem evsK_eq {R : Sort 1} (l : List AV) (os : List Operand) : ∀ k : List AV → R, evsK l os k = k (os.map (evL l)) := by
  induction os with
  | nil => intro k; rfl
  | cons o r ih =>
    intro k
    show bare2 (evL l o) (fun v => evsK l r fun vs => k (v :: vs)) = _
    rw [bare2_eq]
    exact ih _

/-- The same, one operation behind another as the text has them, for a walk: a guard's two ways are parted once. -/
def execK (E : Env) (o : Oper) (b : Nat) (sl : List AV) (hp : List (Nat × Ob)) (K : List AV → List (Nat × Ob) → Prop) : Prop :=
  evsK sl o.op.operands.toList fun vs => match (opR E o.op vs b).run (hget hp) with
    | some r => allP r.ps (bare2 r.val fun v => hsetsK r.ups hp fun hp => putK o.dst v sl fun sl => K sl hp)
    | none => False
def walkOps (E : Env) (ops : Array Oper) (K : List AV → List (Nat × Ob) → Nat → Prop) (os : List Oper) : Nat → List AV → List (Nat × Ob) → Prop :=
  List.rec (motive := fun _ => Nat → List AV → List (Nat × Ob) → Prop) (fun b sl hp => K sl hp b)
    (fun o _ ih b sl hp => natK (b + 8) fun b' => match o.guard with
      | none => execK E o b sl hp (ih b')
      | some (j, want) =>
        match (match lget ops.toList j with | some q => q.dst | none => none) with
        | some d => match lget sl d with
          | some (.bool c) => cond c
            (setK (.bool true) sl d fun sl => match want with
              | true => execK E o b sl hp (ih b')
              | false => putK o.dst (.tup []) sl fun sl => ih b' sl hp)
            (setK (.bool false) sl d fun sl => match want with
              | true => putK o.dst (.tup []) sl fun sl => ih b' sl hp
              | false => execK E o b sl hp (ih b'))
          | some (.tup []) => putK o.dst (.tup []) sl fun sl => ih b' sl hp
          | _ => False
        | none => False) os

def bareN {R : Sort 1} (l : List Nat) : (List Nat → R) → R :=
  List.rec (motive := fun _ => (List Nat → R) → R) (fun k => k []) (fun n _ ih k => natK n fun n => ih fun l => k (n :: l)) l
theorem bareN_eq {R : Sort 1} (l : List Nat) : ∀ k : List Nat → R, bareN l k = k l := by
  induction l with
  | nil => intro k; rfl
  | cons v l ih =>
    intro k
    show natK v (fun n => bareN l fun l => k (n :: l)) = _
    rw [natK_eq]
    exact ih _
/-- A walk through a region that draws its order. -/
def pushK {R : Sort 1} (i : Nat) (rs ws : List Nat) (acc : Foot) (k : Foot → R) : R :=
  match rs, ws with
  | [], [] => k acc
  | rs, ws => k ((i, rs, ws) :: acc)
theorem pushK_eq {R : Sort 1} (i : Nat) (rs ws : List Nat) (acc : Foot) (k : Foot → R) : pushK i rs ws acc k = k (pushAcc i rs ws acc) := by
  unfold pushK pushAcc
  split <;> rfl
def execD (E : Env) (o : Oper) (mask b i : Nat) (sl : List AV) (hp : List (Nat × Ob)) (acc : Foot) (K : List AV → List (Nat × Ob) → Foot → Prop) : Prop :=
  evsK sl o.op.operands.toList fun vs => match (opR E o.op vs b).run (hget hp) with
    | some r => bareN ((opR E o.op vs b).reads (hget hp)) fun rs => bareN (lmap Prod.fst r.ups) fun ws => match okAcc mask rs ws acc with
      | true => allP r.ps (bare2 r.val fun v => hsetsK r.ups hp fun hp' => putK o.dst v sl fun sl => pushK i rs ws acc fun acc => K sl hp' acc)
      | false => False
    | none => False
def walkD (E : Env) (ops : Array Oper) (K : List AV → List (Nat × Ob) → Nat → Prop) (os : List Oper) : List Nat → Nat → Nat → List AV → List (Nat × Ob) → Foot → Prop :=
  List.rec (motive := fun _ => List Nat → Nat → Nat → List AV → List (Nat × Ob) → Foot → Prop) (fun _ _ b sl hp _ => K sl hp b)
    (fun o _ ih ms i b sl hp acc => natK (b + 8) fun b' => natK (i + 1) fun i' => match ms with
      | [] => False
      | m :: ms => match o.guard with
        | none => execD E o m b i sl hp acc (ih ms i' b')
        | some (j, want) =>
          match (match lget ops.toList j with | some q => q.dst | none => none) with
          | some d => match lget sl d with
            | some (.bool c) => cond c
              (setK (.bool true) sl d fun sl => match want with
                | true => execD E o m b i sl hp acc (ih ms i' b')
                | false => putK o.dst (.tup []) sl fun sl => ih ms i' b' sl hp acc)
              (setK (.bool false) sl d fun sl => match want with
                | true => putK o.dst (.tup []) sl fun sl => ih ms i' b' sl hp acc
                | false => execD E o m b i sl hp acc (ih ms i' b'))
            | some (.tup []) => putK o.dst (.tup []) sl fun sl => ih ms i' b' sl hp acc
            | _ => False
          | none => False) os

/-- Names of own objects that a value bears. -/
def namesIn : AV → List Nat
  | .own h => [h]
  | .ptr h _ _ => [h]
  | .mp h => [h]
  | _ => []
def namesIn1 : AV → List Nat
  | .agg cs => lflat namesIn cs
  | .tup cs => lflat namesIn cs
  | .fn _ cs => lflat namesIn cs
  | v => namesIn v
def has (n : Nat) (l : List Nat) : Bool := List.rec (motive := fun _ => Bool) false (fun m _ ih => match Nat.beq n m with | true => true | false => ih) l
def addNames (H : Nat → Option Ob) (l : List Nat) : List Nat → List Nat :=
  List.rec (motive := fun _ => List Nat → List Nat) (fun acc => acc) (fun h _ ih acc => match has h acc with
    | true => ih acc
    | false => match H h with
      | some _ => ih (lapp acc [h])
      | none => ih acc) l
/-- All that is reached from some names. -/
def reachN (H : Nat → Option Ob) (n : Nat) : List Nat → List Nat → List Nat :=
  Nat.rec (motive := fun _ => List Nat → List Nat → List Nat) (fun _ acc => acc) (fun _ ih l acc => match l with
    | [] => acc
    | h :: r => match H h with
      | some (.box cs) => ih (lapp r (ldrop (addNames H (lflat namesIn1 cs) acc) (llen acc))) (addNames H (lflat namesIn1 cs) acc)
      | some (.tab _ _ _ (some (some a))) => ih (lapp r (ldrop (addNames H [a] acc) (llen acc))) (addNames H [a] acc)
      | some (.tbx _ (some (some a))) => ih (lapp r (ldrop (addNames H [a] acc) (llen acc))) (addNames H [a] acc)
      | _ => ih r acc) n

def idx (n : Nat) (l : List Nat) : Option Nat :=
  List.rec (motive := fun _ => Option Nat) none (fun m _ ih => match Nat.beq n m with
    | true => some 0
    | false => match ih with | some i => some (i + 1) | none => none) l
def renC (L : List Nat) : AV → AV
  | .own h => match idx h L with | some i => .own i | none => .undef
  | .ptr h i c => match idx h L with | some q => .ptr q i c | none => .undef
  | .mp h => match idx h L with | some i => .mp i | none => .undef
  | .pre _ _ => .undef
  | .suf _ _ => .undef
  | .agg _ => .undef
  | .tup _ => .undef
  | .fn f cs => match cs with | [] => .fn f [] | _ => .undef
  | v => v
def renV (L : List Nat) : AV → AV
  | .agg cs => .agg (lmap (renC L) cs)
  | .tup cs => .tup (lmap (renC L) cs)
  | .fn f cs => .fn f (lmap (renC L) cs)
  | v => renC L v
def renAct (L : List Nat) : Option (Option Nat) → Option (Option Nat)
  | some (some a) => some (idx a L)
  | a => a
def renO (L : List Nat) : Ob → Ob
  | .box cs => .box (lmap (renV L) cs)
  | .tab t n xss act => .tab t n xss (renAct L act)
  | .tbx T act => .tbx T (renAct L act)
  | o => o
def keepSlots (keep : List Nat) (l : List AV) : Nat → List AV :=
  List.rec (motive := fun _ => Nat → List AV) (fun _ => []) (fun v _ ih i => match has i keep with
    | true => v :: ih (i + 1)
    | false => .undef :: ih (i + 1)) l
/-- Nil slices in slots, made own empty ones. -/
def fillNil (l : List (Nat × Ty)) : SL → SL :=
  List.rec (motive := fun _ => SL → SL) (fun s => s) (fun p _ ih s => match lget s.slots p.1 with
    | some .nilsl => ih ⟨lset (.own s.next) s.slots p.1, hset s.next s.heap (some (.arr p.2 [])), s.next + 1⟩
    | _ => ih s) l
/-- .. and in cells of boxes that slots point to. -/
def fillNil2 (l : List (Nat × Nat × Ty)) : SL → SL :=
  List.rec (motive := fun _ => SL → SL) (fun s => s) (fun p _ ih s => match lget s.slots p.1 with
    | some (.ptr h _ _) => match hget s.heap h with
      | some (.box cs) => match lget cs p.2.1 with
        | some .nilsl => ih ⟨s.slots, hset h (hset s.next s.heap (some (.arr p.2.2 []))) (some (.box (lset (.own s.next) cs p.2.1))), s.next + 1⟩
        | _ => ih s
      | _ => ih s
    | _ => ih s) l
def obsOf (H : List (Nat × Ob)) (L : List Nat) (l : List Nat) : Nat → List (Nat × Ob) :=
  List.rec (motive := fun _ => Nat → List (Nat × Ob)) (fun _ => []) (fun h _ ih i => match idx h L with
    | some j => (match Nat.beq j i with
      | true => (match hget H h with
        | some o => (i, renO L o) :: ih (i + 1)
        | none => ih (i + 1))
      | false => ih (i + 1))
    | none => ih (i + 1)) l
def bareObs {R : Sort 1} (l : List (Nat × Ob)) : (List (Nat × Ob) → R) → R :=
  List.rec (motive := fun _ => (List (Nat × Ob) → R) → R) (fun k => k []) (fun p _ ih k => natK p.1 fun i => match p.2 with
    | .box cs => bares cs fun cs => ih fun r => k ((i, .box cs) :: r)
    | .arr t xs => ih fun r => k ((i, .arr t xs) :: r)
    | .mp a b es => ih fun r => k ((i, .mp a b es) :: r)
    | .tab t n xss act => bareAct act fun act => ih fun r => k ((i, .tab t n xss act) :: r)
    | .tbx T act => bareAct act fun act => ih fun r => k ((i, .tbx T act) :: r)
    | .trow e xs => ih fun r => k ((i, .trow e xs) :: r)) l
theorem bareObs_eq {R : Sort 1} (l : List (Nat × Ob)) : ∀ k : List (Nat × Ob) → R, bareObs l k = k l := by
  induction l with
  | nil => intro k; rfl
  | cons p r ih =>
    intro k
    obtain ⟨i, o⟩ := p
    show natK i (fun i => match o with
      | .box cs => bares cs fun cs => bareObs r fun r => k ((i, .box cs) :: r)
      | .arr t xs => bareObs r fun r => k ((i, .arr t xs) :: r)
      | .mp a b es => bareObs r fun r => k ((i, .mp a b es) :: r)
      | .tab t n xss act => bareAct act fun act => bareObs r fun r => k ((i, .tab t n xss act) :: r)
      | .tbx T act => bareAct act fun act => bareObs r fun r => k ((i, .tbx T act) :: r)
      | .trow e xs => bareObs r fun r => k ((i, .trow e xs) :: r)) = _
    rw [natK_eq]
    cases o with
    | box cs =>
      show bares cs (fun cs => bareObs r fun r => k ((i, .box cs) :: r)) = _
      rw [bares_eq]
      exact ih _
    | arr t xs => exact ih _
    | mp a b es => exact ih _
    | tab t n xss act =>
      show bareAct act (fun act => bareObs r fun r => k ((i, .tab t n xss act) :: r)) = _
      rw [bareAct_eq]
      exact ih _
    | tbx T act =>
      show bareAct act (fun act => bareObs r fun r => k ((i, .tbx T act) :: r)) = _
      rw [bareAct_eq]
      exact ih _
    | trow e xs => exact ih _
def bareS {R : Sort 1} (l : List AV) : (List AV → R) → R :=
  List.rec (motive := fun _ => (List AV → R) → R) (fun k => k []) (fun v _ ih k => bare2 v fun v => ih fun l => k (v :: l)) l
theorem bareS_eq {R : Sort 1} (l : List AV) : ∀ k : List AV → R, bareS l k = k l := by
  induction l with
  | nil => intro k; rfl
  | cons v l ih =>
    intro k
    show bare2 v (fun v => bareS l fun l => k (v :: l)) = _
    rw [bare2_eq]
    exact ih _
def bareSL {R : Sort 1} (s : SL) (k : SL → R) : R := match s with
  | ⟨sl, hp, n⟩ => bareS sl fun sl => bareObs hp fun hp => natK n fun n => k ⟨sl, hp, n⟩
theorem bareSL_eq {R : Sort 1} (s : SL) (k : SL → R) : bareSL s k = k s := by cases s; simp only [bareSL, bareS_eq, bareObs_eq, natK_eq]

abbrev Ann := List Nat × List (Nat × Ty) × List (Nat × Nat × Ty)
/-- The state at a loop's head: what is kept, its names told anew. -/
def canonL (s : SL) (keep : List Nat) : List Nat :=
  reachN (hget s.heap) 60 (addNames (hget s.heap) (lflat namesIn1 (keepSlots keep s.slots 0)) []) (addNames (hget s.heap) (lflat namesIn1 (keepSlots keep s.slots 0)) [])
def canonAt (L : List Nat) (keep : List Nat) (s : SL) : SL := ⟨lmap (renV L) (keepSlots keep s.slots 0), obsOf s.heap L L 0, llen L⟩
def canon (a : Ann) (s : SL) : SL := canonAt (canonL (fillNil2 a.2.2 (fillNil a.2.1 s)) a.1) a.1 (fillNil2 a.2.2 (fillNil a.2.1 s))
def canonK {R : Sort 1} (a : Ann) (s : SL) (k : SL → R) : R :=
  bareSL (fillNil2 a.2.2 (fillNil a.2.1 s)) fun s => bareN (canonL s a.1) fun L => bareSL (canonAt L a.1 s) k
theorem canonK_eq {R : Sort 1} (a : Ann) (s : SL) (k : SL → R) : canonK a s k = k (canon a s) := by
  simp only [canonK, bareN_eq, bareSL_eq, canon]

def firstId (c : Code) : Nat :=
  Code.rec (motive := fun _ => Nat) 0 (fun id _ _ => id) (fun _ _ a _ => a) (fun _ _ _ _ _ => 0) (fun _ _ a => a) (fun _ a => a) (fun _ _ _ _ _ _ => 0) (fun _ => 0) (fun _ a => a) (fun _ => 0) (fun _ => 0) 0 (fun _ => 0) c

def iter (f : SL → (Exit → SL → Prop) → Prop) (Q : Exit → SL → Prop) (n : Nat) : SL → Prop :=
  Nat.rec (motive := fun _ => SL → Prop) (fun _ => False) (fun _ ih s => f s fun e s' => match e with
    | .normal => ih s'
    | e => Q e s') n

/-- Behind a first piece of code, the second. -/
def thenK (next : SL → Prop) (Q : Exit → SL → Prop) (e : Exit) (s : SL) : Prop := match e with
  | .normal => next s
  | e => Q e s
def outK (id : Nat) (Q : Exit → SL → Prop) (e : Exit) (s : SL) : Prop := match e with
  | .exit j => (match Nat.beq j id with | true => Q .normal s | false => Q (.exit j) s)
  | e => Q e s
/-- A scope out of which nothing jumps. -/
def noGotoK (Q : Exit → SL → Prop) (e : Exit) (s : SL) : Prop := match e with
  | .goto _ => False
  | e => Q e s
def condK (v : AV) (A B : Prop) : Prop := match v with
  | .bool t => cond t A B
  | _ => False
/-- A loop ends, and so its run. -/
structure LoopP (E : Env) (c : Code) (f : SL → (Exit → SL → Prop) → Prop) (a : Ann) (Q : Exit → SL → Prop) (s : SL) : Prop where
  ex : ∃ n, iter (fun s K => canonK a s fun s => f s K) Q n s
def den (E : Env) (c : Code) : SL → (Exit → SL → Prop) → Prop :=
  Code.rec (motive := fun _ => SL → (Exit → SL → Prop) → Prop)
    (fun s Q => Q .normal s)
    (fun id ops draw s Q => match s with | ⟨sl, hp, n⟩ => (match draw with
      | false => walkOps E ops (fun sl hp b => Q .normal ⟨sl, hp, b⟩) ops.toList n sl hp
      | true => walkD E ops (fun sl hp b => Q .normal ⟨sl, hp, b⟩) ops.toList (masks ops.toList []) 0 n sl hp []))
    (fun _ _ da db s Q => da s (thenK (fun s' => db s' Q) Q))
    (fun c _ _ da db s Q => condK (evL s.slots c) (da s Q) (db s Q))
    (fun id _ dc s Q => dc s (outK id Q))
    (fun c dc s Q => match E.ann (firstId c) with
      | some a => LoopP E c dc a Q s
      | none => False)
    (fun _ _ _ _ _ _ _ _ => False)
    (fun id s Q => Q (.exit id) s)
    (fun _ dc s Q => dc s (noGotoK Q))
    (fun _ s Q => Q .normal s)
    (fun _ _ _ => False)
    (fun s Q => Q .ret s)
    (fun _ _ _ => False)
    c
end
end Go.Proofs.YtaafjaibaaiigaaGreatDoor.Eng
/- How the state of the machine apart from memory stands to the model's world; what allocations, writes and giving away do to it. Written for this seat's proofs. -/
set_option linter.unusedVariables false
set_option linter.unusedSimpArgs false
namespace Go.Proofs.YtaafjaibaaiigaaGreatDoor.Eng
open Go Go.RowKit

def blk (μ : Nat → Option Wh) (h : Nat) : Option Nat := ((μ h).bind (·.a)).map (·.block)
def BlkOf (μ : Nat → Option Wh) (H : Nat → Option Ob) (b : Nat) : Prop := ∃ h, H h ≠ none ∧ blk μ h = some b
def Stb (B : Zn) (S0 : Nat → Prop) (μ : Nat → Option Wh) (H : Nat → Option Ob) (w : World) (b : Nat) : Prop :=
  (S0 b ∨ B.z b) ∧ b < w.heap.size ∧ ¬ BlkOf μ H b

/-- Values that hold no slices, as the model has them. -/
noncomputable def Ty.vals (t : Ty) : t.D → List Value :=
  Ty.rec (motive := fun t => t.D → List Value) (fun k n => [.int k n]) (fun b => [.bool b]) (fun s => [.string s]) (fun _ _ _ => []) (fun _ ih x => ih x) (fun _ _ ih jh x => ih x.1 ++ jh x.2) t
/-- A key of a map. -/
noncomputable def Ty.keyV : (t : Ty) → t.D → Value
  | .str, x => .string x
  | .int k, x => .agg (Ty.vals (.int k) x).toArray
  | .bool, x => .agg (Ty.vals .bool x).toArray
  | .sl t, x => .agg (Ty.vals (.sl t) x).toArray
  | .one a, x => .agg (Ty.vals (.one a) x).toArray
  | .fld a r, x => .agg (Ty.vals (.fld a r) x).toArray
theorem Ty.rep_flat0 {St St' : Nat → Prop} {w w' : World} : ∀ {t : Ty} {x : t.D} {us : List Value}, t.flat = true → t.rep St w x us → t.rep St' w' x us
  | .int _, _, _, _, r => r
  | .bool, _, _, _, r => r
  | .str, _, _, _, r => r
  | .sl _, _, _, h, _ => by cases h
  | .one a, x, us, h, r => Ty.rep_flat0 (t := a) h r
  | .fld a r, x, us, h, q => by
    have hh : a.flat = true ∧ r.flat = true := by
      have h' : andB a.flat r.flat = true := h
      revert h'
      cases a.flat <;> cases r.flat <;> simp [andB]
    obtain ⟨u1, u2, e, g1, g2⟩ := q
    exact ⟨u1, u2, e, Ty.rep_flat0 hh.1 g1, Ty.rep_flat0 hh.2 g2⟩
/-- The row of an own array. -/
structure ArrR (B : Zn) (St : Nat → Prop) (w : World) (m : Wh) (t : Ty) (xs : List t.D) : Prop where
  sz : m.sz = t.size
  n : m.n = xs.length
  c : m.n ≤ m.c
  nil : m.a = none → m.c = 0
  row : ∀ a, m.a = some a → a.spot = none ∧ B.z a.block ∧ ∃ cs e, w.heap[a.block]? = some (.cells cs e (0, 0)) ∧ a.off + m.c * t.size ≤ cs.size ∧
    ∀ i x, xs[i]? = some x → ∃ us, us.length = t.size ∧ t.rep St w x us ∧ ∀ j u, us[j]? = some u → cs[a.off + i * t.size + j]? = some u
/-- The rows of a table; those that are values lie in new blocks. -/
structure TabR (B : Zn) (St : Nat → Prop) (μ : Nat → Option Wh) (w : World) (t : Ty) (n c : Nat) (xss : List (List t.D)) (act : Option (Option Nat)) (vs : Array Value) : Prop where
  cap : n ≤ c
  len : xss.length ≤ n
  all : c ≤ vs.size
  rows : ∀ (i : Nat) (xs : List t.D), xss[i]? = some xs → ∃ a cc, vs[i]? = some (Value.slice a xs.length cc) ∧ CapOk a xs.length cc ∧ RowK (fun b => B.z b ∧ St b) w (t.rep (fun b => B.z b ∧ St b) w) t.size a xs
  ac : ∀ a, act = some (some a) → ∃ m, μ a = some m ∧ vs[xss.length]? = some (Value.slice m.a m.n m.c)
  rest : ∀ i : Nat, i < n → xss.length ≤ i → (act ≠ none → i ≠ xss.length) → vs[i]? = some (Value.slice none 0 0)
  room : act ≠ none → xss.length < n
/-- A text's builder: fresh, or in use with an own row. -/
structure TbxR (μ : Nat → Option Wh) (b : Nat) (act : Option (Option Nat)) (p v : Value) : Prop where
  fresh : act = none → p = .pointer none ∧ v = .slice none 0 0
  used : ∀ g, act = some (some g) → p = .pointer (some ⟨b, 0, none⟩) ∧ ∃ m, μ g = some m ∧ v = .slice m.a m.n m.c
def ObR (B : Zn) (St : Nat → Prop) (μ : Nat → Option Wh) (w : World) (h : Nat) : Ob → Prop
  | .box cs => ∃ b vs e, μ h = some ⟨some ⟨b, 0, none⟩, cs.length, 1, 1⟩ ∧ B.z b ∧ w.heap[b]? = some (.cells vs.toArray e (0, 0)) ∧ RVs St w μ cs vs
  | .arr t xs => ∃ m, μ h = some m ∧ ArrR B St w m t xs
  | .mp k v es => ∃ b ents c, μ h = some ⟨some ⟨b, 0, none⟩, 1, 1, 1⟩ ∧ B.z b ∧ w.heap[b]? = some (.map ents c) ∧
    ents.toList.map (fun e => (e.key, [e.val])) = es.map (fun p => (k.keyV p.1, v.vals p.2))
  | .tab t n xss act => ∃ b c vs e, μ h = some ⟨some ⟨b, 0, none⟩, 1, n, c⟩ ∧ B.z b ∧ w.heap[b]? = some (.cells vs e (0, 0)) ∧ TabR B St μ w t n c xss act vs
  | .tbx T act => ∃ b p v, μ h = some ⟨some ⟨b, 0, none⟩, 2, 1, 1⟩ ∧ B.z b ∧ w.heap[b]? = some (.cells #[p, v] T (0, 0)) ∧ TbxR μ b act p v
  | .trow e xs => ∃ b c cs, μ h = some ⟨some ⟨b, 0, none⟩, 1, xs.length, c⟩ ∧ B.z b ∧ w.heap[b]? = some (.cells cs e (0, 0)) ∧ xs.length ≤ c ∧ c ≤ maxLen ∧ cs.size = c ∧ cs.toList.take xs.length = xs.map (Value.int .u8)

structure HS (B : Zn) (S0 : Nat → Prop) (μ : Nat → Option Wh) (H : Nat → Option Ob) (w : World) : Prop where
  s0 : ∀ b, S0 b → b < B.n
  bsz : B.under w.heap.size
  obj : ∀ h o, H h = some o → ObR B (Stb B S0 μ H w) μ w h o
  sep : ∀ h h' b, H h ≠ none → H h' ≠ none → blk μ h = some b → blk μ h' = some b → h = h'

section
variable {B : Zn} {S0 : Nat → Prop} {μ μ' : Nat → Option Wh} {H H' : Nat → Option Ob} {w w' : World}

theorem keeps_of (hsz : w.heap.size ≤ w'.heap.size) (hch : ∀ b, b < w.heap.size → ¬ BlkOf μ H b → w'.heap[b]? = w.heap[b]?)
    (hnew : ∀ b, BlkOf μ' H' b → b < w.heap.size → BlkOf μ H b) : Keeps (Stb B S0 μ H w) (Stb B S0 μ' H' w') w w' :=
  ⟨fun b hb => ⟨hb.1, Nat.lt_of_lt_of_le hb.2.1 hsz, fun h => hb.2.2 (hnew b h hb.2.1)⟩, fun b hb => hch b hb.2.1 hb.2.2⟩

theorem ArrR.mono {St St' : Nat → Prop} {m : Wh} {t : Ty} {xs : List t.D} (k : Keeps St St' w w') (hb : ∀ a, m.a = some a → w'.heap[a.block]? = w.heap[a.block]?)
    (r : ArrR B St w m t xs) : ArrR B St' w' m t xs := by
  refine ⟨r.sz, r.n, r.c, r.nil, fun a ha => ?_⟩
  obtain ⟨h1, h2, cs, e, h3, h4, h5⟩ := r.row a ha
  refine ⟨h1, h2, cs, e, (hb a ha).trans h3, h4, fun i x hx => ?_⟩
  obtain ⟨us, g1, g2, g3⟩ := h5 i x hx
  exact ⟨us, g1, t.rep_mono k x us g2, g3⟩

theorem blk_of {h : Nat} {m : Wh} {a : Addr} (hm : μ h = some m) (ha : m.a = some a) : blk μ h = some a.block := by simp [blk, hm, ha]
theorem blk_some {h b : Nat} (hb : blk μ h = some b) : ∃ m a, μ h = some m ∧ m.a = some a ∧ a.block = b := by
  unfold blk at hb
  cases hm : μ h with
  | none => simp [hm] at hb
  | some m => cases ha : m.a with
    | none => simp [hm, ha] at hb
    | some a => simp [hm, ha] at hb; exact ⟨m, a, rfl, ha, hb⟩

theorem TabR.mono {St St' : Nat → Prop} {t : Ty} {n c : Nat} {xss : List (List t.D)} {act : Option (Option Nat)} {vs : Array Value} (k : Keeps St St' w w') (he : Ext μ μ') (r : TabR B St μ w t n c xss act vs) : TabR B St' μ' w' t n c xss act vs := by
  have k2 : Keeps (fun b => B.z b ∧ St b) (fun b => B.z b ∧ St' b) w w' := ⟨fun b h => ⟨h.1, k.st b h.2⟩, fun b h => k.at_ b h.2⟩
  refine ⟨r.cap, r.len, r.all, fun i xs hx => ?_, fun a ha => ?_, r.rest, r.room⟩
  · obtain ⟨a, cc, h1, h2, h3⟩ := r.rows i xs hx
    exact ⟨a, cc, h1, h2, h3.mono k2 (t.rep_mono k2)⟩
  · obtain ⟨m, h1, h2⟩ := r.ac a ha
    exact ⟨m, he _ _ h1, h2⟩
theorem ObR.mono {St St' : Nat → Prop} {h : Nat} {o : Ob} (k : Keeps St St' w w') (he : Ext μ μ') (hb : ∀ b, blk μ h = some b → w'.heap[b]? = w.heap[b]?)
    (r : ObR B St μ w h o) : ObR B St' μ' w' h o := by
  cases o with
  | box cs =>
    obtain ⟨b, vs, e, h1, h2, h3, h4⟩ := r
    exact ⟨b, vs, e, he _ _ h1, h2, (hb b (by simp [blk, h1])).trans h3, RVs.mono k he cs vs h4⟩
  | arr t xs =>
    obtain ⟨m, h1, h2⟩ := r
    exact ⟨m, he _ _ h1, h2.mono k fun a ha => hb _ (blk_of h1 ha)⟩
  | mp kt vt es =>
    obtain ⟨b, ents, c, h1, h2, h3, h4⟩ := r
    exact ⟨b, ents, c, he _ _ h1, h2, (hb b (by simp [blk, h1])).trans h3, h4⟩
  | tab t n xss act =>
    obtain ⟨b, c, vs, e, h1, h2, h3, h4⟩ := r
    exact ⟨b, c, vs, e, he _ _ h1, h2, (hb b (by simp [blk, h1])).trans h3, h4.mono k he⟩
  | tbx T act =>
    obtain ⟨b, p, v, h1, h2, h3, h4⟩ := r
    refine ⟨b, p, v, he _ _ h1, h2, (hb b (by simp [blk, h1])).trans h3, h4.fresh, fun g hg => ?_⟩
    obtain ⟨q1, m, q2, q3⟩ := h4.used g hg
    exact ⟨q1, m, he _ _ q2, q3⟩
  | trow e xs =>
    obtain ⟨b, c, cs, h1, h2, h3, h4⟩ := r
    exact ⟨b, c, cs, he _ _ h1, h2, (hb b (by simp [blk, h1])).trans h3, h4⟩

theorem ObR.told {St : Nat → Prop} {h : Nat} {o : Ob} (r : ObR B St μ w h o) : ∃ m, μ h = some m := by
  cases o with
  | box cs => obtain ⟨b, vs, e, h1, _⟩ := r; exact ⟨_, h1⟩
  | arr t xs => obtain ⟨m, h1, _⟩ := r; exact ⟨m, h1⟩
  | mp kt vt es => obtain ⟨b, ents, c, h1, _⟩ := r; exact ⟨_, h1⟩
  | tab t n xss act => obtain ⟨b, c, vs, e, h1, _⟩ := r; exact ⟨_, h1⟩
  | tbx T act => obtain ⟨b, p, v, h1, _⟩ := r; exact ⟨_, h1⟩
  | trow e xs => obtain ⟨b, c, cs, h1, _⟩ := r; exact ⟨_, h1⟩
theorem ObR.at_ {St : Nat → Prop} {h b : Nat} {o : Ob} (r : ObR B St μ w h o) (hb : blk μ h = some b) : B.z b ∧ ∃ ob, w.heap[b]? = some ob := by
  obtain ⟨m, a, hm, ha, rfl⟩ := blk_some hb
  cases o with
  | box cs =>
    obtain ⟨b, vs, e, h1, h2, h3, _⟩ := r
    rw [hm] at h1
    cases h1
    cases ha
    exact ⟨h2, _, h3⟩
  | arr t xs =>
    obtain ⟨m', h1, h2⟩ := r
    rw [hm] at h1
    cases h1
    obtain ⟨_, g1, cs, e, g2, _⟩ := h2.row a ha
    exact ⟨g1, _, g2⟩
  | mp kt vt es =>
    obtain ⟨b, ents, c, h1, h2, h3, _⟩ := r
    rw [hm] at h1
    cases h1
    cases ha
    exact ⟨h2, _, h3⟩
  | tab t n xss act =>
    obtain ⟨b, c, vs, e, h1, h2, h3, h4⟩ := r
    rw [hm] at h1
    cases h1
    cases ha
    exact ⟨h2, _, h3⟩
  | tbx T act =>
    obtain ⟨b, p, v, h1, h2, h3, h4⟩ := r
    rw [hm] at h1
    cases h1
    cases ha
    exact ⟨h2, _, h3⟩
  | trow e xs =>
    obtain ⟨b, c, cs, h1, h2, h3, h4⟩ := r
    rw [hm] at h1
    cases h1
    cases ha
    exact ⟨h2, _, h3⟩
theorem HS.live (hs : HS B S0 μ H w) {h : Nat} (hm : μ h = none) : H h = none := by
  cases ho : H h with
  | none => rfl
  | some o =>
    obtain ⟨m, h1⟩ := (hs.obj h o ho).told
    rw [hm] at h1
    cases h1
theorem HS.in_ (hs : HS B S0 μ H w) {b : Nat} (h : BlkOf μ H b) : B.z b ∧ b < w.heap.size := by
  obtain ⟨q, hq, hb⟩ := h
  cases ho : H q with
  | none => exact absurd ho hq
  | some o =>
    obtain ⟨h1, ob, h2⟩ := (hs.obj q o ho).at_ hb
    exact ⟨h1, (Array.getElem?_eq_some_iff.1 h2).1⟩

/-- A step of the world, in general. -/
theorem HS.step (hs : HS B S0 μ H w) (he : Ext μ μ') (hsz : w.heap.size ≤ w'.heap.size) (hch : ∀ b, b < w.heap.size → ¬ BlkOf μ H b → w'.heap[b]? = w.heap[b]?)
    (hnew : ∀ b, BlkOf μ' H' b → b < w.heap.size → BlkOf μ H b)
    (hobj : ∀ h o, H' h = some o → (H h = some o ∧ ∀ b, blk μ h = some b → w'.heap[b]? = w.heap[b]?) ∨ ObR B (Stb B S0 μ' H' w') μ' w' h o)
    (hsep : ∀ h h' b, H' h ≠ none → H' h' ≠ none → blk μ' h = some b → blk μ' h' = some b → h = h') : HS B S0 μ' H' w' :=
  ⟨hs.s0, hs.bsz.grow hsz, fun h o ho => (hobj h o ho).elim (fun q => (hs.obj h o q.1).mono (keeps_of hsz hch hnew) he q.2) id, hsep⟩

theorem upd_same (h : Nat) (o : Option Ob) : upd H h o h = o := by simp [upd]
theorem upd_other {h n : Nat} (o : Option Ob) (hn : n ≠ h) : upd H h o n = H n := by
  have : Nat.beq n h = false := by
    cases hb : Nat.beq n h with
    | false => rfl
    | true => exact absurd (Nat.eq_of_beq_eq_true hb) hn
  simp [upd, this]

/-- One more name. -/
def more (μ : Nat → Option Wh) (h : Nat) (m : Wh) : Nat → Option Wh := fun n => if n = h then some m else μ n
theorem more_same (h : Nat) (m : Wh) : more μ h m h = some m := by simp [more]
theorem more_other {h n : Nat} (m : Wh) (hn : n ≠ h) : more μ h m n = μ n := by simp [more, hn]
theorem more_ext {h : Nat} (m : Wh) (hm : μ h = none) : Ext μ (more μ h m) := by
  intro q m' hq
  by_cases e : q = h
  · subst e; rw [hm] at hq; cases hq
  · rw [more_other m e]; exact hq
theorem blk_more_same (h : Nat) (m : Wh) : blk (more μ h m) h = m.a.map (·.block) := by simp [blk, more]
theorem blk_more_other {h n : Nat} (m : Wh) (hn : n ≠ h) : blk (more μ h m) n = blk μ n := by simp [blk, more, hn]

/-- What an operation leaves. -/
structure Done (B : Zn) (S0 : Nat → Prop) (μ : Nat → Option Wh) (H : Nat → Option Ob) (w : World) (base : Nat) (H' : Nat → Option Ob) (c : AV) (v : Value) (μ' : Nat → Option Wh) (w' : World) : Prop where
  ext : Ext μ μ'
  new : ∀ h, (h < base ∨ base + 8 ≤ h) → μ' h = μ h
  hs : HS B S0 μ' H' w'
  keep : Keeps (Stb B S0 μ H w) (Stb B S0 μ' H' w') w w'
  val : RV (Stb B S0 μ' H' w') w' μ' c v
  bel : Bel B w w'

theorem Done.quiet (hs : HS B S0 μ H w) {base : Nat} {c : AV} {v : Value} (h : RV (Stb B S0 μ H w) w μ c v) : Done B S0 μ H w base H c v μ w :=
  ⟨fun _ _ h => h, fun _ _ => rfl, hs, Keeps.refl _ _, h, Bel.refl _ _⟩

/-- A new block. -/
theorem HS.alloc (hs : HS B S0 μ H w) {h : Nat} (hm : μ h = none) (m : Wh) (ob : Obj) (o : Ob) (ha : m.a = some ⟨w.heap.size, 0, none⟩)
    (hob : ∀ (k : Keeps (Stb B S0 μ H w) (Stb B S0 (more μ h m) (upd H h (some o)) (w.alloc ob)) w (w.alloc ob)), ObR B (Stb B S0 (more μ h m) (upd H h (some o)) (w.alloc ob)) (more μ h m) (w.alloc ob) h o) :
    HS B S0 (more μ h m) (upd H h (some o)) (w.alloc ob) ∧ Keeps (Stb B S0 μ H w) (Stb B S0 (more μ h m) (upd H h (some o)) (w.alloc ob)) w (w.alloc ob) := by
  have hH := hs.live hm
  have hsz : w.heap.size ≤ (w.alloc ob).heap.size := by
    show w.heap.size ≤ (w.heap.push ob).size
    rw [Array.size_push]
    omega
  have hch : ∀ b, b < w.heap.size → ¬ BlkOf μ H b → (w.alloc ob).heap[b]? = w.heap[b]? := fun b hb _ => Below.heap_alloc w ob b hb
  have hnew : ∀ b, BlkOf (more μ h m) (upd H h (some o)) b → b < w.heap.size → BlkOf μ H b := by
    rintro b ⟨q, hq, hb⟩ hlt
    by_cases e : q = h
    · subst e
      rw [blk_more_same, ha] at hb
      simp at hb
      omega
    · rw [upd_other _ e] at hq
      rw [blk_more_other m e] at hb
      exact ⟨q, hq, hb⟩
  have k := keeps_of (B := B) (S0 := S0) hsz hch hnew
  refine ⟨hs.step (more_ext m hm) hsz hch hnew (fun q o' ho => ?_) (fun q q' b h1 h2 b1 b2 => ?_), k⟩
  · by_cases e : q = h
    · subst e
      rw [upd_same] at ho
      cases ho
      exact Or.inr (hob k)
    · rw [upd_other _ e] at ho
      refine Or.inl ⟨ho, fun b hb => Below.heap_alloc w ob b (hs.in_ ⟨q, by rw [ho]; simp, hb⟩).2⟩
  · by_cases e : q = h <;> by_cases e' : q' = h
    · rw [e, e']
    · subst e
      rw [blk_more_same, ha] at b1
      rw [blk_more_other m e'] at b2
      rw [upd_other _ e'] at h2
      have := (hs.in_ ⟨q', h2, b2⟩).2
      simp at b1
      omega
    · subst e'
      rw [blk_more_same, ha] at b2
      rw [blk_more_other m e] at b1
      rw [upd_other _ e] at h1
      have := (hs.in_ ⟨q, h1, b1⟩).2
      simp at b2
      omega
    · rw [upd_other _ e] at h1
      rw [upd_other _ e'] at h2
      rw [blk_more_other m e] at b1
      rw [blk_more_other m e'] at b2
      exact hs.sep q q' b h1 h2 b1 b2

/-- Own objects given away. -/
theorem HS.give (hs : HS B S0 μ H w) (h : Nat) : HS B S0 μ (upd H h none) w ∧ Keeps (Stb B S0 μ H w) (Stb B S0 μ (upd H h none) w) w w := by
  have hl : ∀ q, upd H h none q ≠ none → H q ≠ none ∧ q ≠ h := by
    intro q hq
    by_cases e : q = h
    · subst e; rw [upd_same] at hq; exact absurd rfl hq
    · rw [upd_other _ e] at hq; exact ⟨hq, e⟩
  have hnew : ∀ b, BlkOf μ (upd H h none) b → b < w.heap.size → BlkOf μ H b := fun b ⟨q, hq, hb⟩ _ => ⟨q, (hl q hq).1, hb⟩
  refine ⟨hs.step (fun _ _ h => h) (Nat.le_refl _) (fun _ _ _ => rfl) hnew (fun q o ho => ?_) (fun q q' b h1 h2 b1 b2 => hs.sep q q' b (hl q h1).1 (hl q' h2).1 b1 b2), keeps_of (Nat.le_refl _) (fun _ _ _ => rfl) hnew⟩
  have := (hl q (by rw [ho]; simp)).2
  rw [upd_other _ this] at ho
  exact Or.inl ⟨ho, fun _ _ => rfl⟩

/-- A write into an own object. -/
theorem HS.write (hs : HS B S0 μ H w) {h b : Nat} (hl : H h ≠ none) (hb : blk μ h = some b) (o : Ob) (hsz : w'.heap.size = w.heap.size) (hch : ∀ k, k ≠ b → w'.heap[k]? = w.heap[k]?)
    (hob : ∀ (k : Keeps (Stb B S0 μ H w) (Stb B S0 μ (upd H h (some o)) w') w w'), ObR B (Stb B S0 μ (upd H h (some o)) w') μ w' h o) :
    HS B S0 μ (upd H h (some o)) w' ∧ Keeps (Stb B S0 μ H w) (Stb B S0 μ (upd H h (some o)) w') w w' := by
  have hll : ∀ q, upd H h (some o) q ≠ none → H q ≠ none := by
    intro q hq
    by_cases e : q = h
    · subst e; exact hl
    · rwa [upd_other _ e] at hq
  have hc : ∀ k, k < w.heap.size → ¬ BlkOf μ H k → w'.heap[k]? = w.heap[k]? := fun k _ hk => hch k fun e => hk ⟨h, hl, e ▸ hb⟩
  have hnew : ∀ k, BlkOf μ (upd H h (some o)) k → k < w.heap.size → BlkOf μ H k := fun k ⟨q, hq, hk⟩ _ => ⟨q, hll q hq, hk⟩
  have k := keeps_of (B := B) (S0 := S0) (Nat.le_of_eq hsz.symm) hc hnew
  refine ⟨hs.step (fun _ _ h => h) (Nat.le_of_eq hsz.symm) hc hnew (fun q o' ho => ?_) (fun q q' j h1 h2 b1 b2 => hs.sep q q' j (hll q h1) (hll q' h2) b1 b2), k⟩
  by_cases e : q = h
  · subst e
    rw [upd_same] at ho
    cases ho
    exact Or.inr (hob k)
  · rw [upd_other _ e] at ho
    refine Or.inl ⟨ho, fun j hj => hch j fun ej => e (hs.sep q h j (by rw [ho]; simp) hl hj (ej ▸ hb))⟩
end
end Go.Proofs.YtaafjaibaaiigaaGreatDoor.Eng
/- What is told of the types of a program. Written for this seat's proofs. -/
set_option linter.unusedVariables false
set_option linter.unusedSimpArgs false
namespace Go.Proofs.YtaafjaibaaiigaaGreatDoor.Eng
open Go Go.RowKit

noncomputable section
def structTy : List (Option Ty) → Option Ty
  | [] => none
  | [some t] => some (.one t)
  | some t :: r => (structTy r).map (.fld t)
  | none :: _ => none
def tyOf (P : Program) : Nat → TypeId → Option Ty
  | 0, _ => none
  | n + 1, t => match P.underlying t with
    | some (.int k) => some (.int k)
    | some .bool => some .bool
    | some .string => some .str
    | some (.slice e) => (tyOf P n e).map .sl
    | some (.struct fs) => structTy (fs.toList.map fun f => tyOf P n f.type)
    | _ => none
def cmpOf (P : Program) (t : TypeId) (fs : Array Field) : Bool :=
  !P.stoodInHeld t && !P.eqGuardType P.depth t && fs.toList.zipIdx.all fun p => p.1.name != "_" && p.1.offset == p.2 && (match P.underlying p.1.type with | some (.int _) | some .bool | some .string => true | _ => false)
def tiOf (P : Program) (t : TypeId) : TI :=
  match P.info? t, P.underlying t with
  | some i, some d =>
    let z := match i.zero with | some z => z.cells.toList.map ofCell | none => []
    let b (k : Nat) : TI := ⟨k, false, i.size, i.bytes, 0, 0, .i64, z, tyOf P 6 t, [], false, (match i.zero with | some z => (match z with | .agg _ => false | _ => true) | none => false)⟩
    match d with
    | .int k => { b 5 with ik := k }
    | .bool => b 7
    | .string => b 4
    | .slice e => { b 1 with elem := e }
    | .array n e => { b 2 with agg := true, elem := e, len := n }
    | .struct fs => { b 3 with agg := true, flds := fs.toList.map fun f => (f.offset, f.type), cmp := cmpOf P t fs }
    | .map k e => { b 6 with elem := e, len := k }
    | .pointer _ => b 8
    | .func .. => b 9
    | _ => TI.none
  | _, _ => TI.none

end
def Ty.text : Ty → String
  | .int k => "(.int ." ++ (match k with | .i8 => "i8" | .i16 => "i16" | .i32 => "i32" | .i64 => "i64" | .u8 => "u8" | .u16 => "u16" | .u32 => "u32" | .u64 => "u64") ++ ")"
  | .bool => ".bool"
  | .str => ".str"
  | .sl t => "(.sl " ++ t.text ++ ")"
  | .one a => "(.one " ++ a.text ++ ")"
  | .fld a r => "(.fld " ++ a.text ++ " " ++ r.text ++ ")"
end Go.Proofs.YtaafjaibaaiigaaGreatDoor.Eng
/- The operations that only read, against the model. Written for this seat's proofs. -/
set_option linter.unusedVariables false
set_option linter.unusedSimpArgs false
namespace Go.Proofs.YtaafjaibaaiigaaGreatDoor.Eng
open Go Go.RowKit

theorem RV_ofCell {St : Nat → Prop} {w : World} {μ : Nat → Option Wh} (v : Value) : RV St w μ (ofCell v) v := by
  unfold ofCell
  split <;> simp only [RV]
theorem RVs_ofCell {St : Nat → Prop} {w : World} {μ : Nat → Option Wh} : ∀ vs : List Value, RVs St w μ (vs.map ofCell) vs
  | [] => rfl
  | v :: vs => ⟨v, vs, rfl, RV_ofCell v, RVs_ofCell vs⟩
theorem RV_ofValue {St : Nat → Prop} {w : World} {μ : Nat → Option Wh} (v : Value) : RV St w μ (ofValue v) v := by
  unfold ofValue
  split
  · rename_i cs
    rw [lmap_eq]
    exact ⟨cs.toList, by simp, RVs_ofCell _⟩
  · exact RV_ofCell _

/-- What the table says of a type is so. -/
structure TF (P : Program) (i : TI) (t : TypeId) : Prop where
  info : ∃ f, P.info? t = some f ∧ f.size = i.size ∧ f.bytes = i.bytes ∧ i.zero = (match f.zero with | some z => z.cells.toList.map ofCell | none => [])
  desc : ∃ d, P.underlying t = some d ∧ (match d with | .struct _ | .array _ _ => true | _ => false) = i.agg
  k1 : i.kind = 1 → P.underlying t = some (.slice i.elem)
  k2 : i.kind = 2 → P.underlying t = some (.array i.len i.elem)
  k3 : i.kind = 3 → ∃ fs, P.underlying t = some (.struct fs) ∧ i.flds = fs.toList.map fun f => (f.offset, f.type)
  cmp : i.cmp = true → ∃ fs, P.underlying t = some (.struct fs) ∧ cmpOf P t fs = true
  k4 : i.kind = 4 → P.underlying t = some .string
  k5 : i.kind = 5 → P.underlying t = some (.int i.ik)
  k7 : i.kind = 7 → P.underlying t = some .bool
  k6 : i.kind = 6 → P.underlying t = some (.map i.len i.elem)
  z1 : i.z1 = true → ∃ f z, P.info? t = some f ∧ f.zero = some z ∧ ∀ cs, z ≠ .agg cs
  ty : i.ty = tyOf P 6 t

theorem tiOf_spec (P : Program) (t : TypeId) (h : (tiOf P t).kind ≠ 0) : TF P (tiOf P t) t := by
  unfold tiOf at h ⊢
  cases hi : P.info? t with
  | none => simp [hi, TI.none] at h
  | some f =>
    cases hd : P.underlying t with
    | none => simp [hi, hd, TI.none] at h
    | some d =>
      simp only [hi, hd] at h ⊢
      cases d <;> first
        | (simp [TI.none] at h; done)
        | (exact ⟨⟨f, hi, rfl, rfl, by cases f.zero <;> rfl⟩, ⟨_, hd, rfl⟩, by simp [hd], by simp [hd], by simp [hd], by simp [hd], by simp [hd], by simp [hd], by simp [hd], by simp [hd], (by intro h; cases hz : f.zero with | none => simp [hz] at h | some z => exact ⟨f, z, hi, hz, fun cs e => by subst e; simp [hz] at h⟩), rfl⟩)

/-- The table of an environment is the program's. -/
def TOk (P : Program) (E : Env) : Prop := ∀ t, (E.ti t).kind ≠ 0 → TF P (E.ti t) t
theorem TOk.of {P : Program} {E : Env} {n : Nat} (h : (List.range n).map (tiOf P) = E.T) : TOk P E := by
  intro t ht
  unfold Env.ti at ht ⊢
  rw [lget_eq, ← h] at ht ⊢
  by_cases hn : t < n
  · simp only [List.getElem?_map, List.getElem?_range hn, Option.map_some] at ht ⊢
    exact tiOf_spec P t ht
  · simp only [List.getElem?_map, List.getElem?_eq_none (l := List.range n) (i := t) (by simp; omega), Option.map_none] at ht
    exact absurd rfl ht

section
variable {P : Program} {E : Env} {B : Zn} {S0 : Nat → Prop} {μ : Nat → Option Wh} {H : Nat → Option Ob} {w : World}

theorem add_plain (b o n : Nat) : (⟨b, o, none⟩ : Addr).add n = ⟨b, o + n, none⟩ := by
  unfold Addr.add
  split
  · rename_i h; subst h; rfl
  · rfl

theorem run_loadVar_at (hT : TOk P E) {t : Nat} (hk : (E.ti t).kind ≠ 0) {b o : Nat} {vs : List Value} (hc : ∀ j u, vs[j]? = some u → w.cell? ⟨b, o + j, none⟩ = some u) :
    ((E.ti t).agg = true → (E.ti t).size ≤ vs.length → (loadVar t ⟨b, o, none⟩).run P w = .ok (.agg (vs.take (E.ti t).size).toArray) w) ∧
    ((E.ti t).agg = false → ∀ u, vs[0]? = some u → (loadVar t ⟨b, o, none⟩).run P w = .ok u w) := by
  obtain ⟨f, hf, h1, h2, h3⟩ := (hT t hk).info
  obtain ⟨d, hd, hda⟩ := (hT t hk).desc
  constructor
  · intro ha hl
    have hlen : (vs.take (E.ti t).size).length = (E.ti t).size := by rw [List.length_take]; omega
    have hcells := run_loadCells_list (P := P) w ⟨b, o, none⟩ (vs.take (E.ti t).size) (fun j v hj => by
      rw [add_plain]
      refine hc j v ?_
      rw [List.getElem?_take] at hj
      split at hj
      · exact hj
      · simp at hj)
    rw [hlen] at hcells
    rw [ha] at hda
    have hagg : (isAgg t).run P w = .ok true w := by
      cases d <;> simp at hda <;> simp [isAgg, run_underlying hd]
    have hsz : (sizeOf t).run P w = .ok (E.ti t).size w := by simp [sizeOf, typeInfo, hf, h1]
    simp only [loadVar, Sem.run_bind, hagg, Result.andThen_ok, if_true, hsz, hcells, Sem.run_pure]
  · intro ha u hu
    rw [ha] at hda
    have hagg : (isAgg t).run P w = .ok false w := by
      cases d <;> simp at hda <;> simp [isAgg, run_underlying hd]
    have h0 := hc 0 u hu
    simp only [Nat.add_zero] at h0
    simp [loadVar, hagg, h0]

theorem take_ok (hT : TOk P E) {St : Nat → Prop} {t : Nat} {cs : List AV} {vs : List Value} {b o : Nat} {r : Res} (hv : RVs St w μ cs vs)
    (hc : ∀ j u, vs[j]? = some u → w.cell? ⟨b, o + j, none⟩ = some u) (hr : (takeR E t cs).run H = some r) :
    ∃ u, (loadVar t ⟨b, o, none⟩).run P w = .ok u w ∧ r.ps = [] ∧ r.ups = [] ∧ RV St w μ r.val u := by
  unfold takeR at hr
  split at hr
  · cases hr
  · rename_i hk
    obtain ⟨g1, g2⟩ := run_loadVar_at (P := P) (w := w) hT (t := t) (fun e => hk e) hc
    split at hr
    · rename_i ha
      split at hr
      · rename_i hl
        have hl' := Nat.eq_of_beq_eq_true hl
        rw [llen_eq, ltake_eq, List.length_take] at hl'
        cases hr
        refine ⟨_, g1 ha (by rw [hv.len]; omega), rfl, rfl, ?_⟩
        rw [ltake_eq]
        exact ⟨_, rfl, hv.take _⟩
      · cases hr
    · rename_i ha
      split at hr
      · rename_i c rest
        cases hr
        obtain ⟨u, us, rfl, h1, h2⟩ := hv
        exact ⟨u, g2 ha u rfl, rfl, rfl, h1⟩
      · cases hr

theorem cell_at {b o : Nat} {cs : Array Value} {e : TypeId} {f : Nat × Nat} (h : w.heap[b]? = some (.cells cs e f)) : w.cell? ⟨b, o, none⟩ = cs[o]? := by
  simp [World.cell?, h]
theorem rd_at {t : Ty} {xs : List t.D} {i : Nat} (h : i < xs.length) : xs[i]? = some (rd t xs i) := by
  unfold rd
  rw [List.getD_eq_getElem?_getD, List.getElem?_eq_getElem h]
  rfl

theorem tabAt_ok {St : Nat → Prop} {t : Ty} {n c : Nat} {xss : List (List t.D)} {act : Option (Option Nat)} {vs : Array Value} (r : TabR B St μ w t n c xss act vs) {i : Nat} (hi : i < n) :
    ∃ u, vs[i]? = some u ∧ RV St w μ (tabAt t xss act i) u := by
  unfold tabAt
  split
  · rename_i hb
    have hlt : i < xss.length := by
      refine Nat.lt_of_not_le fun hle => ?_
      rw [Nat.ble_eq_true_of_le hle] at hb
      cases hb
    have hget : xss[i]? = some (xss.getD i []) := by
      rw [List.getD_eq_getElem?_getD, List.getElem?_eq_getElem hlt]
      rfl
    obtain ⟨a, cc, h1, h2, h3⟩ := r.rows i _ hget
    have k : Keeps (fun b => B.z b ∧ St b) St w w := ⟨fun b h => h.2, fun _ _ => rfl⟩
    exact ⟨_, h1, a, cc, rfl, h2, h3.mono k (t.rep_mono k)⟩
  · rename_i hb
    have hle := Nat.le_of_ble_eq_true hb
    split
    · exact ⟨_, r.rest i hi hle (fun h => absurd rfl h), rfl⟩
    · rename_i q
      split
      · rename_i he
        have he := Nat.eq_of_beq_eq_true he
        subst he
        split
        · rename_i a
          obtain ⟨m, h1, h2⟩ := r.ac a rfl
          exact ⟨_, h2, m, h1, rfl⟩
        · have hsz : xss.length < vs.size := Nat.lt_of_lt_of_le hi (Nat.le_trans r.cap r.all)
          exact ⟨vs[xss.length], Array.getElem?_eq_getElem hsz, trivial⟩
      · rename_i he
        refine ⟨_, r.rest i hi hle (fun _ e => ?_), rfl⟩
        subst e
        rw [Nat.beq_refl] at he
        cases he

theorem load_ok (hT : TOk P E) (hs : HS B S0 μ H w) {t : Nat} {a : AV} {v : Value} {r : Res} (ha : RV (Stb B S0 μ H w) w μ a v) (hr : (loadR E t a).run H = some r) :
    ∃ u, (Instr.loadAt t v).run P w = .ok u w ∧ r.ps = [] ∧ r.ups = [] ∧ RV (Stb B S0 μ H w) w μ r.val u := by
  unfold loadR at hr
  split at hr
  · rename_i h i c
    obtain ⟨m, b, o, hm, hma, hi, rfl⟩ := ha
    change (match H h with
      | some (.box cs) => takeR E t (ldrop cs c)
      | some (.arr ty xs) => takeR E t (ldrop (ty.toCells (rd ty xs i)) c)
      | some (.tab ty n xss act) => (match Nat.beq c 0 with
        | true => takeR E t [tabAt ty xss act i]
        | false => Rd.bad)
      | _ => Rd.bad).run H = some r at hr
    cases ho : H h with
    | none => rw [ho] at hr; cases hr
    | some ob =>
      rw [ho] at hr
      have hob := hs.obj h ob ho
      cases ob with
      | box cs =>
        obtain ⟨b', vs, e, h1, h2, h3, h4⟩ := hob
        rw [hm] at h1
        cases h1
        cases hma
        have hi0 : i = 0 := by simp at hi; exact hi
        subst hi0
        change (takeR E t (ldrop cs c)).run H = some r at hr
        rw [ldrop_eq] at hr
        have := take_ok (P := P) (μ := μ) (b := b) (o := c) hT (h4.drop c) (fun j u hj => by
          rw [cell_at h3]
          rw [List.getElem?_drop] at hj
          simpa using hj) hr
        simpa [Instr.loadAt, Instr.sureAddr] using this
      | arr ty xs =>
        obtain ⟨m', h1, h2⟩ := hob
        rw [hm] at h1
        cases h1
        obtain ⟨_, _, cs, e, h3, h4, h5⟩ := h2.row _ hma
        have hil : i < xs.length := by have := h2.n; omega
        obtain ⟨us, g1, g2, g3⟩ := h5 i _ (rd_at hil)
        change (takeR E t (ldrop (ty.toCells (rd ty xs i)) c)).run H = some r at hr
        rw [ldrop_eq] at hr
        have := take_ok (P := P) (μ := μ) (b := b) (o := o + i * m.sz + c) hT ((ty.cells_of_rep _ _ g2).drop c) (fun j u hj => by
          rw [cell_at h3, h2.sz]
          rw [List.getElem?_drop] at hj
          have := g3 _ _ hj
          rwa [← Nat.add_assoc] at this) hr
        simpa [Instr.loadAt, Instr.sureAddr] using this
      | mp _ _ _ => cases hr
      | tbx _ _ => cases hr
      | trow _ _ => cases hr
      | tab ty n xss act =>
        obtain ⟨b', c', vs, e, h1, h2, h3, h4⟩ := hob
        rw [hm] at h1
        cases h1
        cases hma
        simp only at hi
        change (match Nat.beq c 0 with
          | true => takeR E t [tabAt ty xss act i]
          | false => Rd.bad).run H = some r at hr
        split at hr
        · rename_i hc0
          have hc0 := Nat.eq_of_beq_eq_true hc0
          subst hc0
          obtain ⟨u, hu, hru⟩ := tabAt_ok h4 hi
          have hrv : RVs (Stb B S0 μ H w) w μ [tabAt ty xss act i] [u] := ⟨u, [], rfl, hru, rfl⟩
          have := take_ok (P := P) (μ := μ) (b := b) (o := 0 + i * 1 + 0) (vs := [u]) hT hrv (fun j x hj => by
            cases j with
            | zero =>
              simp only [List.getElem?_cons_zero, Option.some.injEq] at hj
              subst hj
              rw [cell_at h3]
              simpa using hu
            | succ j => simp at hj) hr
          simpa [Instr.loadAt, Instr.sureAddr] using this
        · cases hr
  · rename_i ty x c
    obtain ⟨b, o, us, rfl, hb, hl, hrep, hc⟩ := ha
    rw [ldrop_eq] at hr
    have := take_ok (P := P) (μ := μ) (b := b) (o := o + c) hT ((ty.cells_of_rep _ _ hrep).drop c) (fun j u hj => by
      rw [List.getElem?_drop] at hj
      have := hc _ _ hj
      rwa [← Nat.add_assoc] at this) hr
    simpa [Instr.loadAt, Instr.sureAddr] using this
  · cases hr
end
end Go.Proofs.YtaafjaibaaiigaaGreatDoor.Eng
/- Own slices given away, written, made longer: against the model. Written for this seat's proofs. -/
set_option linter.unusedVariables false
set_option linter.unusedSimpArgs false
namespace Go.Proofs.YtaafjaibaaiigaaGreatDoor.Eng
open Go Go.RowKit

section
variable {P : Program} {E : Env} {B : Zn} {S0 : Nat → Prop} {μ : Nat → Option Wh} {H H' : Nat → Option Ob} {w : World}

theorem upds_nil (H : Nat → Option Ob) : upds H [] = H := rfl
theorem upds_cons (H : Nat → Option Ob) (h : Nat) (o : Option Ob) (r : List (Nat × Option Ob)) : upds H ((h, o) :: r) = upds (upd H h o) r := rfl
theorem upds_append (H : Nat → Option Ob) (u v : List (Nat × Option Ob)) : upds H (u ++ v) = upds (upds H u) v := by
  induction u generalizing H with
  | nil => rfl
  | cons p u ih => obtain ⟨h, o⟩ := p; exact ih _

/-- Names given away: the rest is as it was. -/
theorem gives {u : List (Nat × Option Ob)} (hu : ∀ p ∈ u, p.2 = none) : ∀ {H : Nat → Option Ob}, (∀ q, (∃ p ∈ u, p.1 = q) → upds H u q = none) ∧ (∀ q, (∀ p ∈ u, p.1 ≠ q) → upds H u q = H q) := by
  induction u with
  | nil => exact ⟨fun q ⟨p, hp, _⟩ => (by cases hp), fun q _ => rfl⟩
  | cons p u ih =>
    obtain ⟨h, o⟩ := p
    have ho : o = none := hu (h, o) List.mem_cons_self
    subst ho
    have ih := fun {H} => ih (fun p hp => hu p (List.mem_cons_of_mem _ hp)) (H := H)
    intro H
    rw [upds_cons]
    constructor
    · rintro q ⟨p, hp, rfl⟩
      by_cases hin : ∃ p' ∈ u, p'.1 = p.1
      · exact ih.1 _ hin
      · rw [ih.2 p.1 (fun p' h1 h2 => hin ⟨p', h1, h2⟩)]
        rcases List.mem_cons.1 hp with rfl | hp
        · exact upd_same _ _
        · exact absurd ⟨p, hp, rfl⟩ hin
    · intro q hq
      rw [ih.2 q (fun p' hp' => hq p' (List.mem_cons_of_mem _ hp'))]
      exact upd_other _ (fun e => hq (h, none) List.mem_cons_self e.symm)
theorem HS.gives_ok {u : List (Nat × Option Ob)} (hu : ∀ p ∈ u, p.2 = none) : ∀ {H : Nat → Option Ob}, HS B S0 μ H w → HS B S0 μ (upds H u) w ∧ Keeps (Stb B S0 μ H w) (Stb B S0 μ (upds H u) w) w w := by
  induction u with
  | nil => exact fun hs => ⟨hs, Keeps.refl _ _⟩
  | cons p u ih =>
    obtain ⟨h, o⟩ := p
    have ho : o = none := hu (h, o) List.mem_cons_self
    subst ho
    intro H hs
    obtain ⟨h1, k1⟩ := hs.give h
    obtain ⟨h2, k2⟩ := ih (fun p hp => hu p (List.mem_cons_of_mem _ hp)) h1
    exact ⟨h2, k1.trans k2⟩

/-- What was own and is no one's any more is seen by what it holds. -/
theorem frozen_ok (hs : HS B S0 μ H w) {h : Nat} {t : Ty} {xs : List t.D} (ho : H h = some (.arr t xs)) (hn : H' h = none) (hsub : ∀ q, H' q ≠ none → H q ≠ none)
    (k : Keeps (Stb B S0 μ H w) (Stb B S0 μ H' w) w w) {v : Value} (hv : RV (Stb B S0 μ H w) w μ (.own h) v) : RV (Stb B S0 μ H' w) w μ (.sl t xs) v := by
  obtain ⟨m, hm, rfl⟩ := hv
  obtain ⟨m', h1, h2⟩ := hs.obj h _ ho
  rw [hm] at h1
  cases h1
  refine ⟨m.a, m.c, by rw [h2.n], ⟨by have := h2.n; have := h2.c; omega, fun e => h2.nil e⟩, fun i x hx => ?_⟩
  have hil : i < xs.length := (List.getElem?_eq_some_iff.1 hx).1
  cases ha : m.a with
  | none =>
    have := h2.nil ha
    have := h2.n
    have := h2.c
    omega
  | some a =>
    obtain ⟨g1, g2, cs, e, g3, g4, g5⟩ := h2.row a ha
    obtain ⟨us, f1, f2, f3⟩ := g5 i x hx
    obtain ⟨b, o, sp⟩ := a
    simp only at g1
    subst g1
    refine ⟨b, o, rfl, ⟨Or.inr g2, (Array.getElem?_eq_some_iff.1 g3).1, ?_⟩, us, f1, t.rep_mono k x us f2, fun j u hu => ?_⟩
    · rintro ⟨q, hq, hb⟩
      have := hs.sep q h b (hsub q hq) (by rw [ho]; simp) hb (by rw [blk_of hm ha])
      subst this
      exact hq hn
    · rw [cell_at g3]
      exact f3 j u hu

theorem give_ok (hs : HS B S0 μ H w) : ∀ {cs : List AV} {vs : List Value} {g : List AV × List (Nat × Option Ob)}, RVs (Stb B S0 μ H w) w μ cs vs → (giveR cs).run H = some g →
    (∀ p ∈ g.2, p.2 = none ∧ H p.1 ≠ none) ∧ g.1.length = cs.length ∧ (cs.all AV.cell = true → g.1.all AV.cell = true) ∧
      ∀ {H' : Nat → Option Ob}, (∀ p ∈ g.2, H' p.1 = none) → (∀ q, H' q ≠ none → H q ≠ none) → Keeps (Stb B S0 μ H w) (Stb B S0 μ H' w) w w → RVs (Stb B S0 μ H' w) w μ g.1 vs
  | [], vs, g, hv, hr => by
    cases hr
    exact ⟨fun p hp => (by cases hp), rfl, fun h => h, fun _ _ _ => hv⟩
  | c :: cs, vs, g, hv, hr => by
    obtain ⟨u, us, rfl, h1, h2⟩ := hv
    have plain : ∀ (g' : List AV × List (Nat × Option Ob)), (giveR cs).run H = some g' → g = (c :: g'.1, g'.2) → (∀ p ∈ g.2, p.2 = none ∧ H p.1 ≠ none) ∧ g.1.length = (c :: cs).length ∧ ((c :: cs).all AV.cell = true → g.1.all AV.cell = true) ∧
      ∀ {H' : Nat → Option Ob}, (∀ p ∈ g.2, H' p.1 = none) → (∀ q, H' q ≠ none → H q ≠ none) → Keeps (Stb B S0 μ H w) (Stb B S0 μ H' w) w w → RVs (Stb B S0 μ H' w) w μ g.1 (u :: us) := by
      rintro g' hg' rfl
      obtain ⟨a1, a2, a3, a4⟩ := give_ok hs h2 hg'
      refine ⟨a1, by simp [a2], fun h => ?_, fun hn hsub k => ⟨u, us, rfl, RV.mono k (fun _ _ h => h) _ _ h1, a4 hn hsub k⟩⟩
      simp only [List.all_cons, Bool.and_eq_true] at h ⊢
      exact ⟨h.1, a3 h.2⟩
    have bindOk : ∀ {f : List AV × List (Nat × Option Ob) → Rd (List AV × List (Nat × Option Ob))} {x : Rd (List AV × List (Nat × Option Ob))} {g}, (x.bind f).run H = some g → ∃ g', x.run H = some g' ∧ (f g').run H = some g := by
      intro f x
      induction x with
      | ok a => exact fun h => ⟨a, rfl, h⟩
      | bad => exact fun h => (by cases h)
      | get h k ih => exact fun hh => ih (H h) hh
    cases c with
    | own h =>
      change (match H h with
        | some (.arr t xs) => (giveR cs).bind fun l => Rd.ok (AV.sl t xs :: l.1, (h, (none : Option Ob)) :: l.2)
        | _ => Rd.bad).run H = some g at hr
      cases ho : H h with
      | none => rw [ho] at hr; cases hr
      | some ob =>
        rw [ho] at hr
        cases ob with
        | arr t xs =>
          obtain ⟨g', hg', hg⟩ := bindOk hr
          cases hg
          obtain ⟨a1, a2, a3, a4⟩ := give_ok hs h2 hg'
          refine ⟨fun p hp => ?_, by simp [a2], fun hh => ?_, fun hn hsub k => ⟨u, us, rfl, ?_, a4 (fun p hp => hn p (List.mem_cons_of_mem _ hp)) hsub k⟩⟩
          · rcases List.mem_cons.1 hp with rfl | hp
            · exact ⟨rfl, by rw [ho]; simp⟩
            · exact a1 p hp
          · simp only [List.all_cons, Bool.and_eq_true] at hh ⊢
            exact ⟨rfl, a3 hh.2⟩
          · exact frozen_ok hs ho (hn (h, none) List.mem_cons_self) hsub k h1
        | box _ => cases hr
        | mp _ _ _ => cases hr
        | tab _ _ _ _ => cases hr
        | tbx _ _ => cases hr
        | trow _ _ => cases hr
    | _ =>
      obtain ⟨g', hg', hg⟩ := bindOk hr
      exact plain g' hg' (by cases hg; rfl)

/-- A row of plain elements that is no one's any more: it lies in new blocks. -/
theorem fresh_row (hs : HS B S0 μ H w) {h : Nat} {t : Ty} {xs : List t.D} (ho : H h = some (.arr t xs)) (hfl : t.flat = true) (hn : H' h = none) (hsub : ∀ q, H' q ≠ none → H q ≠ none) {m : Wh} (hm : μ h = some m) :
    m.n = xs.length ∧ CapOk m.a m.n m.c ∧ RowK (fun b => B.z b ∧ Stb B S0 μ H' w b) w (t.rep (fun b => B.z b ∧ Stb B S0 μ H' w b) w) t.size m.a xs := by
  obtain ⟨m', h1, h2⟩ := hs.obj h _ ho
  rw [hm] at h1
  cases h1
  refine ⟨h2.n, ⟨h2.c, fun e => h2.nil e⟩, fun i x hx => ?_⟩
  have hil : i < xs.length := (List.getElem?_eq_some_iff.1 hx).1
  cases ha : m.a with
  | none =>
    have := h2.nil ha
    have := h2.n
    have := h2.c
    omega
  | some a =>
    obtain ⟨g1, g2, cs, e, g3, g4, g5⟩ := h2.row a ha
    obtain ⟨us, f1, f2, f3⟩ := g5 i x hx
    obtain ⟨b, o, sp⟩ := a
    simp only at g1
    subst g1
    refine ⟨b, o, rfl, ⟨g2, Or.inr g2, (Array.getElem?_eq_some_iff.1 g3).1, ?_⟩, us, f1, Ty.rep_flat0 hfl f2, fun j u hu => ?_⟩
    · rintro ⟨q, hq, hb⟩
      have := hs.sep q h b (hsub q hq) (by rw [ho]; simp) hb (by rw [blk_of hm ha])
      subst this
      exact hq hn
    · rw [cell_at g3]
      exact f3 j u hu

/-- Some cells of a row, put anew. -/
def spl (cur : List Value) (o : Nat) (vs : List Value) : List Value := cur.take o ++ vs ++ cur.drop (o + vs.length)
theorem spl_get {cur vs : List Value} {o : Nat} (h : o + vs.length ≤ cur.length) (p : Nat) : (spl cur o vs)[p]? = if p < o then cur[p]? else if p < o + vs.length then vs[p - o]? else cur[p]? := by
  have e : (cur.take o).length = o := by rw [List.length_take]; omega
  unfold spl
  by_cases h1 : p < o
  · rw [if_pos h1, List.append_assoc, List.getElem?_append_left (by omega), List.getElem?_take, if_pos h1]
  · rw [if_neg h1]
    by_cases h2 : p < o + vs.length
    · rw [if_pos h2, List.append_assoc, List.getElem?_append_right (by omega), e, List.getElem?_append_left (by omega)]
    · rw [if_neg h2, List.getElem?_append_right (by rw [List.length_append]; omega), List.length_append, e, List.getElem?_drop]
      congr 1
      omega
theorem spl_len {cur vs : List Value} {o : Nat} (h : o + vs.length ≤ cur.length) : (spl cur o vs).length = cur.length := by
  unfold spl
  simp only [List.length_append, List.length_take, List.length_drop]
  omega

theorem cells_ok {St : Nat → Prop} {v : AV} {vv : Value} (hc : (cellsOf v).all AV.cell = true) (hv : RV St w μ v vv) : RVs St w μ (cellsOf v) vv.cells.toList ∧ ∀ u ∈ vv.cells.toList, u.oneCell' = true := by
  have all1 : ∀ {cs : List AV} {vs : List Value}, cs.all AV.cell = true → RVs St w μ cs vs → ∀ u ∈ vs, u.oneCell' = true := by
    intro cs
    induction cs with
    | nil => intro vs _ h u hu; simp only [RVs] at h; subst h; cases hu
    | cons c cs ih =>
      intro vs h1 h u hu
      obtain ⟨x, xs, rfl, h2, h3⟩ := h
      simp only [List.all_cons, Bool.and_eq_true] at h1
      rcases List.mem_cons.1 hu with rfl | hu
      · exact RV.one h1.1 h2
      · exact ih h1.2 h3 u hu
  have one : ∀ {c : AV}, c.cell = true → RV St w μ c vv → RVs St w μ [c] vv.cells.toList ∧ ∀ u ∈ vv.cells.toList, u.oneCell' = true := by
    intro c h1 h2
    have h3 := RV.one h1 h2
    have e : vv.cells.toList = [vv] := by cases vv <;> first | rfl | (simp [Value.oneCell'] at h3)
    rw [e]
    exact ⟨⟨vv, [], rfl, h2, rfl⟩, fun u hu => by rw [List.mem_singleton.1 hu]; exact h3⟩
  unfold cellsOf at hc ⊢
  split
  · rename_i cs
    obtain ⟨vs, rfl, h2⟩ := hv
    exact ⟨by simpa [Value.cells] using h2, by simpa [Value.cells] using all1 hc h2⟩
  · rename_i hne
    split at hc
    · rename_i cs; exact absurd rfl (hne cs)
    · exact one (by simpa using hc) hv

theorem andB_true {a b : Bool} (h : andB a b = true) : a = true ∧ b = true := by cases a <;> cases b <;> simp_all [andB]

theorem run_storeVar_at (hT : TOk P E) {t b o : Nat} {cur : Array Value} {e : TypeId} {vv : Value} (hk : (E.ti t).kind ≠ 0) (hg : w.heap[b]? = some (.cells cur e (0, 0)))
    (hl : vv.cells.toList.length = (E.ti t).size) (hf : o + (E.ti t).size ≤ cur.size) (h1 : ∀ u ∈ vv.cells.toList, u.oneCell' = true) :
    (storeVar t ⟨b, o, none⟩ vv).run P w = .ok () (w.setRow b (spl cur.toList o vv.cells.toList).toArray) := by
  obtain ⟨f, hi, h2, _⟩ := (hT t hk).info
  have hs : vv.cells.size = f.size := by rw [h2, ← hl]; simp
  have := run_storeCells_at (P := P) b o e vv.cells.toList 0 cur w hg (by omega) h1
  simp only [Nat.add_zero] at this
  simp only [storeVar, Sem.run_bind, sizeOf, typeInfo, run_program, Result.andThen_ok, hi, Sem.run_pure, hs, ne_eq, not_true_eq_false, if_false]
  exact this

theorem RVs.splice {St : Nat → Prop} {cs ds : List AV} {vs us : List Value} {c : Nat} (h : RVs St w μ cs vs) (k : RVs St w μ ds us) : RVs St w μ (splice cs c ds) (spl vs c us) := by
  unfold Eng.splice spl
  rw [lapp_eq, lapp_eq, ltake_eq, ldrop_eq, llen_eq, List.append_assoc, k.len]
  exact (h.take c).append (k.append (h.drop _))

theorem bind_ok {α β : Type} {f : α → Rd β} {x : Rd α} {g : β} (h : (x.bind f).run H = some g) : ∃ g', x.run H = some g' ∧ (f g').run H = some g := by
  induction x with
  | ok a => exact ⟨a, rfl, h⟩
  | bad => cases h
  | get q k ih => exact ih (H q) h

theorem TabR.put {St St' : Nat → Prop} {w' : World} {t : Ty} {n c : Nat} {xss xss' : List (List t.D)} {act : Option (Option Nat)} {vs : Array Value} (r : TabR B St μ w t n c xss act vs) (k : Keeps St St' w w') {i g : Nat} {m : Wh} (hi : i < n) (hle : xss.length ≤ i)
    (hl : xss'.length = i) (hx : ∀ (j : Nat) (xs : List t.D), xss'[j]? = some xs → xss[j]? = some xs ∨ ∃ a cc, vs[j]? = some (Value.slice a xs.length cc) ∧ CapOk a xs.length cc ∧ RowK (fun b => B.z b ∧ St' b) w' (t.rep (fun b => B.z b ∧ St' b) w') t.size a xs)
    (hg : μ g = some m) : TabR B St' μ w' t n c xss' (some (some g)) (spl vs.toList i [Value.slice m.a m.n m.c]).toArray := by
  have k2 : Keeps (fun b => B.z b ∧ St b) (fun b => B.z b ∧ St' b) w w' := ⟨fun b h => ⟨h.1, k.st b h.2⟩, fun b h => k.at_ b h.2⟩
  have hsz : i + 1 ≤ vs.toList.length := by have := r.cap; have := r.all; simp; omega
  have hsp : ∀ p : Nat, (spl vs.toList i [Value.slice m.a m.n m.c]).toArray[p]? = if p < i then vs[p]? else if p < i + 1 then some (Value.slice m.a m.n m.c) else vs[p]? := by
    intro p
    rw [List.getElem?_toArray, spl_get (by simpa using hsz)]
    simp only [List.length_singleton, Array.getElem?_toList]
    by_cases h1 : p < i
    · rw [if_pos h1, if_pos h1]
    · rw [if_neg h1, if_neg h1]
      by_cases h2 : p < i + 1
      · rw [if_pos h2, if_pos h2]
        have : p - i = 0 := by omega
        rw [this]
        rfl
      · rw [if_neg h2, if_neg h2]
  refine ⟨r.cap, by omega, ?_, fun j xs hj => ?_, fun a ha => ?_, fun j hj hle' hne => ?_, fun _ => by omega⟩
  · rw [List.size_toArray, spl_len (by simpa using hsz)]
    simpa using r.all
  · have hjl : j < i := by rw [← hl]; exact (List.getElem?_eq_some_iff.1 hj).1
    rw [hsp, if_pos hjl]
    rcases hx j xs hj with h | h
    · obtain ⟨a, cc, h1, h2, h3⟩ := r.rows j xs h
      exact ⟨a, cc, h1, h2, h3.mono k2 (t.rep_mono k2)⟩
    · exact h
  · cases ha
    refine ⟨m, hg, ?_⟩
    rw [hsp, hl, if_neg (by omega), if_pos (by omega)]
  · have hji : i < j := by
      have := hne (by simp)
      omega
    rw [hsp, if_neg (by omega), if_neg (by omega)]
    exact r.rest j hj (by omega) (fun _ => by omega)
theorem nilRow {St' : Nat → Prop} {w' : World} {t : Ty} : ∃ a cc, (Value.slice none 0 0) = (Value.slice a ([] : List t.D).length cc) ∧ CapOk a ([] : List t.D).length cc ∧ RowK (fun b => B.z b ∧ St' b) w' (t.rep (fun b => B.z b ∧ St' b) w') t.size a ([] : List t.D) :=
  ⟨none, 0, rfl, ⟨Nat.le_refl _, fun _ => rfl⟩, fun i x hx => by have h0 : (none : Option t.D) = some x := hx; cases h0⟩
theorem putTab_ok (hs : HS B S0 μ H w) {h i b n c : Nat} {ty : Ty} {xss : List (List ty.D)} {act : Option (Option Nat)} {v : AV} {vv : Value} {r : Res} (base : Nat) (hv : RV (Stb B S0 μ H w) w μ v vv)
    (ho : H h = some (.tab ty n xss act)) (hm : μ h = some ⟨some ⟨b, 0, none⟩, 1, n, c⟩) (hi : i < n) (hr : (putTab h i ty n xss act v).run H = some r) (hp : ∀ p ∈ r.ps, p) :
    ∃ vs e, w.heap[b]? = some (.cells vs e (0, 0)) ∧ i + 1 ≤ vs.size ∧ (∃ m : Wh, vv = Value.slice m.a m.n m.c) ∧ Done B S0 μ H w base (upds H r.ups) r.val undef μ (w.setRow b (spl vs.toList i [vv]).toArray) := by
  unfold putTab at hr
  split at hr
  · rename_i g
    obtain ⟨m, hg, rfl⟩ := hv
    obtain ⟨b', c', vs, e, q1, q2, q3, q4⟩ := hs.obj h _ ho
    rw [hm] at q1
    cases q1
    refine ⟨vs, e, q3, by have := q4.cap; have := q4.all; omega, ⟨m, rfl⟩, ?_⟩
    split at hr
    · rename_i hchk
      obtain ⟨hfl, hgh⟩ := andB_true hchk
      have hbk : blk μ h = some b := by simp [blk, hm]
      -- one write
      have main : ∀ {H1 : Nat → Option Ob} (hs1 : HS B S0 μ H1 w) (k1 : Keeps (Stb B S0 μ H w) (Stb B S0 μ H1 w) w w) (ho1 : H1 h = some (.tab ty n xss act)) (hle : xss.length ≤ i) (xss' : List (List ty.D)) (hl : xss'.length = i)
          (hx : ∀ {St' : Nat → Prop} {w' : World}, Keeps (Stb B S0 μ H1 w) St' w w' → ∀ (j : Nat) (xs : List ty.D), xss'[j]? = some xs → xss[j]? = some xs ∨ ∃ a cc, vs[j]? = some (Value.slice a xs.length cc) ∧ CapOk a xs.length cc ∧ RowK (fun b => B.z b ∧ St' b) w' (ty.rep (fun b => B.z b ∧ St' b) w') ty.size a xs),
          Done B S0 μ H w base (upd H1 h (some (.tab ty n xss' (some (some g))))) .undef undef μ (w.setRow b (spl vs.toList i [Value.slice m.a m.n m.c]).toArray) := by
        intro H1 hs1 k1 ho1 hle xss' hl hx
        obtain ⟨hs', k⟩ := hs1.write (w' := w.setRow b (spl vs.toList i [Value.slice m.a m.n m.c]).toArray) (h := h) (by rw [ho1]; simp) hbk (.tab ty n xss' (some (some g))) (by simp) (fun q hq => setRow_other w b q _ hq) (fun k =>
          ⟨b, c, _, e, hm, q2, setRow_heap w b _ _ e (0, 0) q3, (q4.mono k1 (fun _ _ h => h)).put k hi hle hl (hx k) hg⟩)
        exact ⟨fun _ _ h => h, fun _ _ => rfl, hs', k1.trans k, trivial, Bel.setRow (Bel.refl _ _) q2 _⟩
      change (match H g with
        | some (.arr u ys) => (match u.eqv ty with
          | some _ => (match act with
            | none => Rd.ok (⟨[xss.length ≤ i], .undef, [(h, some (.tab ty n (xss ++ List.replicate (i - xss.length) []) (some (some g))))]⟩ : Res)
            | some none => Rd.ok (⟨[i = xss.length], .undef, [(h, some (.tab ty n xss (some (some g))))]⟩ : Res)
            | some (some a) => (match andB (match Nat.beq a h with | true => false | false => true) (match Nat.beq a g with | true => false | false => true) with
              | false => Rd.bad
              | true => Rd.get a fun oa => (match oa with
                | none => Rd.ok (⟨[i = xss.length], .undef, [(h, some (.tab ty n xss (some (some g))))]⟩ : Res)
                | some (.arr u' zs) => (match u'.eqv ty with
                  | some ⟨e⟩ => Rd.ok (⟨[xss.length < i], .undef, [(a, none), (h, some (.tab ty n (xss ++ (e ▸ zs) :: List.replicate (i - xss.length - 1) []) (some (some g))))]⟩ : Res)
                  | none => Rd.bad)
                | _ => Rd.bad)))
          | none => Rd.bad)
        | _ => Rd.bad).run H = some r at hr
      split at hr
      · split at hr
        · split at hr
          · cases hr
            have hle : xss.length ≤ i := hp _ List.mem_cons_self
            refine main hs (Keeps.refl _ _) ho hle _ (by rw [List.length_append, List.length_replicate]; omega) (fun {St' w'} _ j xs hj => ?_)
            rw [List.getElem?_append] at hj
            split at hj
            · exact Or.inl hj
            · rename_i hjl
              have hjr : j - xss.length < i - xss.length := by have := (List.getElem?_eq_some_iff.1 hj).1; simpa using this
              rw [List.getElem?_replicate, if_pos hjr] at hj
              cases hj
              right
              rw [q4.rest j (by omega) (by omega) (fun h => absurd rfl h)]
              obtain ⟨a, cc, e1, e2, e3⟩ := nilRow (B := B) (St' := St') (w' := w') (t := ty)
              exact ⟨a, cc, congrArg some e1, e2, e3⟩
          · cases hr
            have hle : i = xss.length := hp _ List.mem_cons_self
            exact main hs (Keeps.refl _ _) ho (by omega) _ (by omega) (fun _ j xs hj => Or.inl hj)
          · rename_i a
            split at hr
            · cases hr
            · rename_i hne
              obtain ⟨n1, n2⟩ := andB_true hne
              change (match H a with
                | none => Rd.ok (⟨[i = xss.length], .undef, [(h, some (.tab ty n xss (some (some g))))]⟩ : Res)
                | some (.arr u' zs) => (match u'.eqv ty with
                  | some ⟨e⟩ => Rd.ok (⟨[xss.length < i], .undef, [(a, none), (h, some (.tab ty n (xss ++ (e ▸ zs) :: List.replicate (i - xss.length - 1) []) (some (some g))))]⟩ : Res)
                  | none => Rd.bad)
                | _ => Rd.bad).run H = some r at hr
              split at hr
              · cases hr
                have hle : i = xss.length := hp _ List.mem_cons_self
                exact main hs (Keeps.refl _ _) ho (by omega) _ (by omega) (fun _ j xs hj => Or.inl hj)
              · rename_i u' zs hoa
                split at hr
                · rename_i e' _
                  subst e'
                  cases hr
                  have hlt : xss.length < i := hp _ List.mem_cons_self
                  have hah : h ≠ a := by
                    rintro rfl
                    rw [Nat.beq_refl] at n1
                    cases n1
                  obtain ⟨hs1, k1⟩ := hs.give a
                  obtain ⟨ma, a1, a2⟩ := q4.ac a rfl
                  obtain ⟨f1, f2, f3⟩ := fresh_row (H' := upd H a none) hs hoa hfl (upd_same _ _) (fun q hq => by
                    by_cases e : q = a
                    · subst e; rw [upd_same] at hq; exact absurd rfl hq
                    · rwa [upd_other _ e] at hq) a1
                  refine main hs1 k1 (by rw [upd_other _ hah]; exact ho) (by omega) _ (by simp only [List.length_append, List.length_cons, List.length_replicate]; omega) (fun {St' w'} k j xs hj => ?_)
                  have k2 : Keeps (fun b => B.z b ∧ Stb B S0 μ (upd H a none) w b) (fun b => B.z b ∧ St' b) w w' := ⟨fun b h => ⟨h.1, k.st b h.2⟩, fun b h => k.at_ b h.2⟩
                  rw [List.getElem?_append] at hj
                  split at hj
                  · exact Or.inl hj
                  · rename_i hjl
                    right
                    cases hjj : j - xss.length with
                    | zero =>
                      rw [hjj] at hj
                      simp only [List.getElem?_cons_zero, Option.some.injEq] at hj
                      subst hj
                      have : j = xss.length := by omega
                      subst this
                      exact ⟨ma.a, ma.c, by rw [a2, f1], by rw [← f1]; exact f2, f3.mono k2 (Ty.rep_mono k2 _)⟩
                    | succ p =>
                      rw [hjj, List.getElem?_cons_succ] at hj
                      have hjr : p < i - xss.length - 1 := by have := (List.getElem?_eq_some_iff.1 hj).1; simpa using this
                      rw [List.getElem?_replicate, if_pos hjr] at hj
                      cases hj
                      rw [q4.rest j (by omega) (by omega) (fun _ => by omega)]
                      obtain ⟨a, cc, e1, e2, e3⟩ := nilRow (B := B) (St' := St') (w' := w') (t := u')
                      exact ⟨a, cc, congrArg some e1, e2, e3⟩
                · cases hr
              · cases hr
        · cases hr
      · cases hr
    · cases hr
  · cases hr
theorem store_ok (hT : TOk P E) (hs : HS B S0 μ H w) {t : Nat} {a v : AV} {va vv : Value} {r : Res} (base : Nat) (ha : RV (Stb B S0 μ H w) w μ a va) (hv : RV (Stb B S0 μ H w) w μ v vv)
    (hr : (storeR E t v a).run H = some r) (hp : ∀ p ∈ r.ps, p) :
    ∃ w', (Instr.storeAt t va vv).run P w = .ok () w' ∧ Done B S0 μ H w base (upds H r.ups) r.val undef μ w' := by
  unfold storeR at hr
  split at hr
  · rename_i h i c
    obtain ⟨m, b, o, hm, hma, hi, rfl⟩ := ha
    split at hr
    · rename_i hchk
      obtain ⟨c1, c23⟩ := andB_true hchk
      obtain ⟨c2, c3⟩ := andB_true c23
      have hk : (E.ti t).kind ≠ 0 := by have := Nat.le_of_ble_eq_true c1; omega
      have hl := Nat.eq_of_beq_eq_true c2
      rw [llen_eq] at hl
      rw [lall_eq] at c3
      obtain ⟨hvs, h1c⟩ := cells_ok c3 hv
      have hvl : vv.cells.toList.length = (E.ti t).size := by rw [hvs.len]; exact hl
      change (match H h with
        | some (.box cs) => (match Nat.ble (c + (E.ti t).size) (llen cs) with
          | true => Rd.ok (⟨[], .undef, [(h, some (.box (splice cs c (cellsOf v))))]⟩ : Res)
          | false => Rd.bad)
        | some (.arr ty xs) => (match Nat.ble (c + (E.ti t).size) ty.size with
          | true => (giveR (cellsOf v)).bind fun g => (match lall (fun p : Nat × Option Ob => match Nat.beq p.1 h with | true => false | false => true) g.2 with
            | true => (match ty.ofCells (splice (ty.toCells (rd ty xs i)) c g.1) with
              | some (x, []) => Rd.ok (⟨[], .undef, lapp g.2 [(h, some (.arr ty (xs.set i x)))]⟩ : Res)
              | _ => Rd.bad)
            | false => Rd.bad)
          | false => Rd.bad)
        | some (.tab ty n xss act) => (match andB (Nat.beq c 0) (Nat.beq (E.ti t).size 1) with
          | true => putTab h i ty n xss act v
          | false => Rd.bad)
        | _ => Rd.bad).run H = some r at hr
      cases ho : H h with
      | none => rw [ho] at hr; cases hr
      | some ob =>
        rw [ho] at hr
        have hob := hs.obj h ob ho
        have hbk : blk μ h = some b := by simp [blk, hm, hma]
        cases ob with
        | box cs =>
          simp only at hr
          split at hr
          · rename_i hle
            have hle' := Nat.le_of_ble_eq_true hle
            rw [llen_eq] at hle'
            cases hr
            obtain ⟨b', vs, e, g1, g2, g3, g4⟩ := hob
            rw [hm] at g1
            cases g1
            cases hma
            have hi0 : i = 0 := by simp at hi; exact hi
            subst hi0
            have hvsl := g4.len
            have hrun := run_storeVar_at (P := P) (o := c) hT hk g3 hvl (by simp; omega) h1c
            simp only [List.toList_toArray] at hrun
            obtain ⟨hs', k⟩ := hs.write (w' := w.setRow b (spl vs c vv.cells.toList).toArray) (h := h) (by rw [ho]; simp) hbk (.box (splice cs c (cellsOf v))) (by simp) (fun q hq => setRow_other w b q _ hq) (fun k => by
              refine ⟨b, spl vs c vv.cells.toList, e, ?_, g2, setRow_heap w b _ _ e (0, 0) g3, (RVs.mono k (fun _ _ h => h) _ _ g4).splice (RVs.mono k (fun _ _ h => h) _ _ hvs)⟩
              rw [hm]
              have : (splice cs c (cellsOf v)).length = cs.length := by
                have := (g4.splice hvs (c := c)).len
                rw [← this, spl_len (by omega), hvsl]
              rw [this])
            refine ⟨_, ?_, ⟨fun _ _ h => h, fun _ _ => rfl, hs', k, trivial, Bel.setRow (Bel.refl _ _) g2 _⟩⟩
            simpa [Instr.storeAt, Instr.sureAddr] using hrun
          · cases hr
        | arr ty xs =>
          simp only at hr
          split at hr
          · rename_i hle
            have hle' := Nat.le_of_ble_eq_true hle
            obtain ⟨g, hg, hr⟩ := bind_ok hr
            split at hr
            · rename_i hnot
              rw [lall_eq] at hnot
              split at hr
              · rename_i x hx
                cases hr
                obtain ⟨a1, a2, a3, a4⟩ := give_ok hs hvs hg
                obtain ⟨hs1, k1⟩ := hs.gives_ok (fun p hp => (a1 p hp).1)
                have hgv := gives (u := g.2) (fun p hp => (a1 p hp).1) (H := H)
                have hh : upds H g.2 h = some (.arr ty xs) := by
                  rw [hgv.2 h (fun p hp e => ?_), ho]
                  have := List.all_eq_true.1 hnot p hp
                  rw [e, Nat.beq_refl] at this
                  cases this
                have hsub : ∀ q, upds H g.2 q ≠ none → H q ≠ none := by
                  intro q hq
                  by_cases hin : ∃ p ∈ g.2, p.1 = q
                  · exact absurd (hgv.1 q hin) hq
                  · rwa [hgv.2 q (fun p h1 h2 => hin ⟨p, h1, h2⟩)] at hq
                have hv1 := a4 (fun p hp => hgv.1 p.1 ⟨p, hp, rfl⟩) hsub k1
                obtain ⟨m', h1', h2'⟩ := hs1.obj h _ hh
                rw [hm] at h1'
                cases h1'
                obtain ⟨_, g2, cs, e, g3, g4, g5⟩ := h2'.row _ hma
                simp only at g2 g3 g4 g5
                have hil : i < xs.length := by have := h2'.n; omega
                have hic : i < m.c := by have := h2'.c; omega
                have hbound : o + i * ty.size + ty.size ≤ cs.size := by
                  have : (i + 1) * ty.size ≤ m.c * ty.size := Nat.mul_le_mul_right _ hic
                  rw [Nat.add_mul, Nat.one_mul] at this
                  omega
                have hrun := run_storeVar_at (P := P) (o := o + i * ty.size + c) hT hk g3 hvl (by omega) h1c
                have hfit : o + i * ty.size + c + vv.cells.toList.length ≤ cs.toList.length := by rw [hvl]; simp; omega
                obtain ⟨hs', k⟩ := hs1.write (w' := w.setRow b (spl cs.toList (o + i * ty.size + c) vv.cells.toList).toArray) (h := h) (by rw [hh]; simp) hbk (.arr ty (xs.set i x)) (by simp) (fun q hq => setRow_other w b q _ hq) (fun k => by
                  refine ⟨m, hm, h2'.sz, by rw [h2'.n, List.length_set], h2'.c, h2'.nil, fun a ha => ?_⟩
                  rw [hma] at ha
                  cases ha
                  refine ⟨rfl, g2, _, e, setRow_heap w b _ _ e (0, 0) g3, by rw [List.size_toArray, spl_len hfit]; simpa using g4, fun j y hy => ?_⟩
                  by_cases hji : j = i
                  · subst hji
                    rw [List.getElem?_set_self hil] at hy
                    cases hy
                    obtain ⟨us, f1, f2, f3⟩ := g5 j _ (rd_at hil)
                    obtain ⟨us1, ws1, e1, e2, e3⟩ := Ty.rep_of_cells ty _ x [] _ hx ((ty.cells_of_rep _ _ f2).splice hv1)
                    simp only [RVs] at e3
                    subst e3
                    rw [List.append_nil] at e1
                    have hus1 : us1.length = ty.size := ty.rep_len _ _ e2
                    refine ⟨us1, hus1, ty.rep_mono k _ _ e2, fun q u hq => ?_⟩
                    have hql : q < ty.size := by rw [← hus1]; exact (List.getElem?_eq_some_iff.1 hq).1
                    rw [← e1, spl_get (by omega)] at hq
                    simp only [List.getElem?_toArray]
                    rw [spl_get hfit]
                    by_cases q1 : q < c
                    · rw [if_pos q1] at hq
                      rw [if_pos (by omega)]
                      have := f3 q u hq
                      simpa using this
                    · rw [if_neg q1] at hq
                      rw [if_neg (by omega)]
                      by_cases q2 : q < c + vv.cells.toList.length
                      · rw [if_pos q2] at hq
                        rw [if_pos (by omega)]
                        rw [← hq]
                        congr 1
                        omega
                      · rw [if_neg q2] at hq
                        rw [if_neg (by omega)]
                        have := f3 q u hq
                        simpa using this
                  · rw [List.getElem?_set_ne (fun e => hji e.symm)] at hy
                    obtain ⟨us, f1, f2, f3⟩ := g5 j y hy
                    refine ⟨us, f1, ty.rep_mono k _ _ f2, fun q u hq => ?_⟩
                    have hql : q < ty.size := by rw [← f1]; exact (List.getElem?_eq_some_iff.1 hq).1
                    have hfar : o + j * ty.size + q < o + i * ty.size + c ∨ o + i * ty.size + c + vv.cells.toList.length ≤ o + j * ty.size + q := by
                      rcases Nat.lt_or_gt_of_ne hji with h | h
                      · have : (j + 1) * ty.size ≤ i * ty.size := Nat.mul_le_mul_right _ h
                        rw [Nat.add_mul, Nat.one_mul] at this
                        omega
                      · have : (i + 1) * ty.size ≤ j * ty.size := Nat.mul_le_mul_right _ h
                        rw [Nat.add_mul, Nat.one_mul] at this
                        omega
                    simp only [List.getElem?_toArray]
                    rw [spl_get hfit]
                    have := f3 q u hq
                    rcases hfar with h | h
                    · rw [if_pos h]; simpa using this
                    · rw [if_neg (by omega), if_neg (by omega)]; simpa using this)
                have hups : upds H (lapp g.2 [(h, some (Ob.arr ty (xs.set i x)))]) = upd (upds H g.2) h (some (.arr ty (xs.set i x))) := by
                  rw [lapp_eq, upds_append]; rfl
                refine ⟨_, ?_, ⟨fun _ _ h => h, fun _ _ => rfl, by rw [hups]; exact hs', by rw [hups]; exact k1.trans k, trivial, Bel.setRow (Bel.refl _ _) g2 _⟩⟩
                rw [h2'.sz]
                simpa [Instr.storeAt, Instr.sureAddr] using hrun
              · cases hr
            · cases hr
          · cases hr
        | mp _ _ _ => cases hr
        | tbx _ _ => cases hr
        | trow _ _ => cases hr
        | tab ty n xss act =>
          obtain ⟨b', c', _, _, q1, q2, _, _⟩ := hob
          rw [hm] at q1
          cases q1
          cases hma
          simp only at hr hi
          split at hr
          · rename_i hcs
            obtain ⟨hc0, hs1⟩ := andB_true hcs
            have hc0 := Nat.eq_of_beq_eq_true hc0
            have hs1 := Nat.eq_of_beq_eq_true hs1
            subst hc0
            obtain ⟨vs, e, z1, z2, ⟨m, rfl⟩, z4⟩ := putTab_ok hs base hv ho hm hi hr hp
            have hrun := run_storeVar_at (P := P) (o := 0 + i * 1 + 0) (b := b) hT hk z1 hvl (by rw [hs1]; omega) h1c
            refine ⟨_, ?_, z4⟩
            have e1 : (Value.slice m.a m.n m.c).cells.toList = [Value.slice m.a m.n m.c] := rfl
            rw [e1] at hrun
            simpa [Instr.storeAt, Instr.sureAddr] using hrun
          · cases hr
    · cases hr
  · cases hr
end
end Go.Proofs.YtaafjaibaaiigaaGreatDoor.Eng
/- The operations that turn nothing, against the model. Written for this seat's proofs. -/
set_option linter.unusedVariables false
set_option linter.unusedSimpArgs false
namespace Go.Proofs.YtaafjaibaaiigaaGreatDoor.Eng
open Go Go.RowKit

section
variable {P : Program} {E : Env} {B : Zn} {S0 : Nat → Prop} {μ : Nat → Option Wh} {H H' : Nat → Option Ob} {w : World} {St : Nat → Prop}

/-- A quiet operation: it answers, and turns nothing. -/
def Quiet (P : Program) (w : World) (St : Nat → Prop) (μ : Nat → Option Wh) (s : Sem Value) (r : Res) : Prop :=
  ∃ u, s.run P w = .ok u w ∧ r.ups = [] ∧ RV St w μ r.val u

theorem size_ne {t : Nat} (h : Nat.ble 1 (E.ti t).size = true) : (E.ti t).size ≠ 0 := by have := Nat.le_of_ble_eq_true h; omega
theorem TOk.sized (hT : TOk P E) {t : Nat} (h : (E.ti t).size ≠ 0) (hk : (E.ti t).kind ≠ 0) : ∃ f, P.info? t = some f ∧ f.size = (E.ti t).size := by
  obtain ⟨f, h1, h2, _⟩ := (hT t hk).info
  exact ⟨f, h1, h2⟩
theorem ti_kind {t : Nat} (hn : (E.ti t).kind ≠ 0 ∨ E.ti t = TI.none) (h : (E.ti t).size ≠ 0) : (E.ti t).kind ≠ 0 := by
  rcases hn with h1 | h1
  · exact h1
  · rw [h1] at h; exact absurd rfl h

theorem run_sizeOf_ti (hT : TOk P E) {t : Nat} (hk : (E.ti t).kind ≠ 0) : (sizeOf t).run P w = .ok (E.ti t).size w := by
  obtain ⟨f, h1, h2, _⟩ := (hT t hk).info
  simp [sizeOf, typeInfo, h1, h2]

theorem fieldAddr_ok (hT : TOk P E) {t f : Nat} {a : AV} {v : Value} {r : Res} (ha : RV St w μ a v) (hr : (fieldAddrR E t f a).run H = some r) : Quiet P w St μ (Instr.fieldAt t v f) r := by
  have main : ∀ {b o : Nat} {q : Nat × Nat}, (E.ti t).kind = 3 → lget (E.ti t).flds f = some q → Nat.ble 1 (E.ti q.2).kind = true → Nat.ble 1 (E.ti q.2).size = true → (Instr.fieldAt t (.pointer (some ⟨b, o, none⟩)) f).run P w = .ok (.pointer (some ⟨b, o + q.1, none⟩)) w := by
    intro b o q hk hq hqk hqs
    obtain ⟨fs, h1, h2⟩ := (hT t (by rw [hk]; decide)).k3 hk
    rw [lget_eq, h2, List.getElem?_map, Option.map_eq_some_iff] at hq
    obtain ⟨fd, hfd, rfl⟩ := hq
    have hfd' : fs[f]? = some fd := by simpa using hfd
    have hsz := run_sizeOf_ti (P := P) (w := w) hT (t := fd.type) (by have := Nat.le_of_ble_eq_true hqk; exact fun e => by simp [e] at this)
    have hne : (E.ti fd.type).size ≠ 0 := size_ne hqs
    simp [Instr.fieldAt, run_underlying h1, hfd', Instr.sureAddr, fieldPlace, hsz, hne, add_plain]
  unfold fieldAddrR at hr
  split at hr
  · rename_i h i c
    obtain ⟨m, b, o, hm, hma, hi, rfl⟩ := ha
    split at hr
    · rename_i q hk hq
      split at hr
      · rename_i hs
        obtain ⟨hs1, hs2⟩ := andB_true hs
        cases hr
        exact ⟨_, main hk hq hs1 hs2, rfl, m, b, o, hm, hma, hi, by simp only [Nat.add_assoc]⟩
      · cases hr
    · cases hr
  · rename_i ty x c
    obtain ⟨b, o, us, rfl, hb, hl, hrep, hc⟩ := ha
    split at hr
    · rename_i q hk hq
      split at hr
      · rename_i hs
        obtain ⟨hs1, hs2⟩ := andB_true hs
        cases hr
        exact ⟨_, main hk hq hs1 hs2, rfl, b, o, us, by rw [Nat.add_assoc], hb, hl, hrep, hc⟩
      · cases hr
    · cases hr
  · cases hr

theorem field_ok (hT : TOk P E) {t f : Nat} {a : AV} {v : Value} {r : Res} (ha : RV St w μ a v) (hr : (fieldR E t f a).run H = some r) : Quiet P w St μ (Instr.field t v f) r := by
  unfold fieldR at hr
  split at hr
  · rename_i cs
    obtain ⟨vs, rfl, hvs⟩ := ha
    split at hr
    · rename_i q hk hq
      obtain ⟨fs, h1, h2⟩ := (hT t (by rw [hk]; decide)).k3 hk
      rw [lget_eq, h2, List.getElem?_map, Option.map_eq_some_iff] at hq
      obtain ⟨fd, hfd, rfl⟩ := hq
      have hfd' : fs[f]? = some fd := by simpa using hfd
      rw [ldrop_eq] at hr
      unfold takeR at hr
      split at hr
      · cases hr
      · rename_i hk'
        have hk2 : (E.ti fd.type).kind ≠ 0 := fun e => hk' e
        obtain ⟨d, hd, hda⟩ := (hT fd.type hk2).desc
        have hsz := run_sizeOf_ti (P := P) (w := w) hT hk2
        split at hr
        · rename_i hag
          have hagg : (isAgg fd.type).run P w = .ok true w := by
            rw [hag] at hda
            cases d <;> simp at hda <;> simp [isAgg, run_underlying hd]
          split at hr
          · cases hr
            refine ⟨.agg (vs.toArray.extract fd.offset (fd.offset + (E.ti fd.type).size)), ?_, rfl, ?_⟩
            · simp [Instr.field, run_underlying h1, hfd', asAgg, part, hagg, hsz]
            · rw [ltake_eq]
              refine ⟨(vs.drop fd.offset).take (E.ti fd.type).size, ?_, (hvs.drop _).take _⟩
              congr 1
              apply Array.ext'
              simp [Array.toList_extract, List.extract_eq_take_drop]
          · cases hr
        · rename_i hag
          have hagg : (isAgg fd.type).run P w = .ok false w := by
            rw [hag] at hda
            cases d <;> simp at hda <;> simp [isAgg, run_underlying hd]
          split at hr
          · rename_i c rest hc
            cases hr
            have hget : cs[fd.offset]? = some c := by
              have : (cs.drop fd.offset)[0]? = some c := by rw [hc]; rfl
              simpa [List.getElem?_drop] using this
            obtain ⟨u, hu, hru⟩ := hvs.get hget
            refine ⟨u, ?_, rfl, hru⟩
            simp [Instr.field, run_underlying h1, hfd', asAgg, part, hagg, hu]
          · cases hr
    · cases hr
  · cases hr


theorem eqSize_of {t : Nat} {ty : Ty} (h : eqSize (E.ti t) ty = true) : (E.ti t).kind ≠ 0 ∧ (E.ti t).size = ty.size := by
  obtain ⟨h1, h2⟩ := andB_true h
  exact ⟨by have := Nat.le_of_ble_eq_true h1; omega, Nat.eq_of_beq_eq_true h2⟩

theorem indexAddr_ok (hT : TOk P E) (hs : HS B S0 μ H w) {t : Nat} {x i : AV} {vx vi : Value} {r : Res} (hx : RV (Stb B S0 μ H w) w μ x vx) (hi : RV (Stb B S0 μ H w) w μ i vi)
    (hr : (indexAddrR E t x i).run H = some r) (hp : ∀ p ∈ r.ps, p) : Quiet P w (Stb B S0 μ H w) μ (Instr.indexAt t vx vi) r := by
  unfold indexAddrR at hr
  split at hr
  · rename_i ty xs k n
    cases hi
    obtain ⟨a, c, rfl, hlc, hrow⟩ := hx
    split at hr
    · rename_i hk hsz
      obtain ⟨hk2, hs2⟩ := eqSize_of hsz
      cases hr
      have h0 : 0 ≤ n := hp _ List.mem_cons_self
      have h1 : n < (xs.length : Int) := hp _ (List.mem_cons_of_mem _ List.mem_cons_self)
      have hu := (hT t (by rw [hk]; decide)).k1 hk
      have hil : n.toNat < xs.length := by omega
      obtain ⟨b, o, rfl, hb, us, hl, hrep, hc⟩ := hrow _ _ (rd_at hil)
      refine ⟨.pointer (some ⟨b, o + n.toNat * ty.size, none⟩), ?_, rfl, b, o + n.toNat * ty.size, us, by rw [Nat.add_zero], hb, hl, hrep, hc⟩
      simp [Instr.indexAt, asIntOf, run_underlying hu, h0, h1, run_sizeOf_ti (P := P) (w := w) hT hk2, hs2, add_plain]
    · cases hr
  · rename_i h k n
    cases hi
    obtain ⟨m, hm, rfl⟩ := hx
    change (match H h with
      | some (.arr ty xs) => (match (E.ti t).kind, eqSize (E.ti (E.ti t).elem) ty with
        | 1, true => Rd.ok (⟨[0 ≤ n, n < (xs.length : Int)], .ptr h n.toNat 0, []⟩ : Res)
        | _, _ => Rd.bad)
      | some (.tab ty sz xss act) => (match (E.ti t).kind, eqSize (E.ti (E.ti t).elem) (.sl ty) with
        | 1, true => Rd.ok (⟨[0 ≤ n, n < (sz : Int)], .ptr h n.toNat 0, []⟩ : Res)
        | _, _ => Rd.bad)
      | _ => Rd.bad).run H = some r at hr
    cases ho : H h with
    | none => rw [ho] at hr; cases hr
    | some ob =>
      rw [ho] at hr
      cases ob with
      | arr ty xs =>
        simp only at hr
        split at hr
        · rename_i hk hsz
          obtain ⟨hk2, hs2⟩ := eqSize_of hsz
          cases hr
          have h0 : 0 ≤ n := hp _ List.mem_cons_self
          have h1 : n < (xs.length : Int) := hp _ (List.mem_cons_of_mem _ List.mem_cons_self)
          have hu := (hT t (by rw [hk]; decide)).k1 hk
          have hil : n.toNat < xs.length := by omega
          obtain ⟨m', e1, e2⟩ := hs.obj h _ ho
          rw [hm] at e1
          cases e1
          have hn := e2.n
          have hc := e2.c
          cases hma : m.a with
          | none => have := e2.nil hma; omega
          | some a =>
            obtain ⟨g1, _⟩ := e2.row a hma
            obtain ⟨b, o, sp⟩ := a
            simp only at g1
            subst g1
            refine ⟨.pointer (some ⟨b, o + n.toNat * m.sz, none⟩), ?_, rfl, m, b, o, hm, hma, by omega, by rw [Nat.add_zero]⟩
            have h1' : n < (m.n : Int) := by omega
            simp [Instr.indexAt, asIntOf, run_underlying hu, h0, h1', run_sizeOf_ti (P := P) (w := w) hT hk2, hs2, e2.sz, add_plain]
        · cases hr
      | box _ => cases hr
      | mp _ _ _ => cases hr
      | tbx _ _ => cases hr
      | trow _ _ => cases hr
      | tab ty sz xss act =>
        simp only at hr
        split at hr
        · rename_i hk hsz
          obtain ⟨hk2, hs2⟩ := eqSize_of hsz
          cases hr
          have h0 : 0 ≤ n := hp _ List.mem_cons_self
          have h1 : n < (sz : Int) := hp _ (List.mem_cons_of_mem _ List.mem_cons_self)
          have hu := (hT t (by rw [hk]; decide)).k1 hk
          obtain ⟨b, c, vs, e, q1, _, _, _⟩ := hs.obj h _ ho
          rw [hm] at q1
          cases q1
          refine ⟨.pointer (some ⟨b, 0 + n.toNat * 1, none⟩), ?_, rfl, _, b, 0, hm, rfl, by simp only; omega, by rw [Nat.add_zero]⟩
          have hs3 : (E.ti (E.ti t).elem).size = 1 := hs2
          simp [Instr.indexAt, asIntOf, run_underlying hu, h0, h1, run_sizeOf_ti (P := P) (w := w) hT hk2, hs3, add_plain]
        · cases hr
  · rename_i h l k n
    cases hi
    obtain ⟨m, hm, hlm, rfl⟩ := hx
    change (match H h with
      | some (.arr ty xs) => (match (E.ti t).kind, eqSize (E.ti (E.ti t).elem) ty with
        | 1, true => Rd.ok (⟨[0 ≤ n, (l : Int) + n < (xs.length : Int)], .ptr h (l + n.toNat) 0, []⟩ : Res)
        | _, _ => Rd.bad)
      | _ => Rd.bad).run H = some r at hr
    cases ho : H h with
    | none => rw [ho] at hr; cases hr
    | some ob =>
      rw [ho] at hr
      cases ob with
      | box _ => cases hr
      | mp _ _ _ => cases hr
      | tab _ _ _ _ => cases hr
      | tbx _ _ => cases hr
      | trow _ _ => cases hr
      | arr ty xs =>
        simp only at hr
        split at hr
        · rename_i hk hsz
          obtain ⟨hk2, hs2⟩ := eqSize_of hsz
          cases hr
          have h0 : 0 ≤ n := hp _ List.mem_cons_self
          have h1 : (l : Int) + n < (xs.length : Int) := hp _ (List.mem_cons_of_mem _ List.mem_cons_self)
          have hu := (hT t (by rw [hk]; decide)).k1 hk
          obtain ⟨m', e1, e2⟩ := hs.obj h _ ho
          rw [hm] at e1
          cases e1
          have hn := e2.n
          have hc := e2.c
          cases hma : m.a with
          | none => have := e2.nil hma; omega
          | some a =>
            obtain ⟨g1, _⟩ := e2.row a hma
            obtain ⟨b, o, sp⟩ := a
            simp only at g1
            subst g1
            have hne : ¬ m.c = l := by omega
            refine ⟨.pointer (some ⟨b, o + l * m.sz + n.toNat * m.sz, none⟩), ?_, rfl, m, b, o, hm, hma, by omega, by rw [Nat.add_zero, Nat.add_mul, Nat.add_assoc]⟩
            have h1' : n < ((m.n - l : Nat) : Int) := by omega
            rw [if_neg hne]
            simp [Instr.indexAt, asIntOf, run_underlying hu, h0, h1', run_sizeOf_ti (P := P) (w := w) hT hk2, hs2, e2.sz, add_plain]
        · cases hr
  · cases hr

theorem intsOf_ok {k : IntKind} : ∀ {cs : List AV} {vs : List Value} {ns : List Int}, intsOf k cs = some ns → RVs St w μ cs vs → vs = ns.map (Value.int k)
  | [], vs, ns, h, hv => by
    cases h
    simp only [RVs] at hv
    subst hv
    rfl
  | c :: cs, vs, ns, h, hv => by
    obtain ⟨u, us, rfl, h1, h2⟩ := hv
    cases c with
    | int j n =>
      have h' : (match kEq k j with | some _ => (match intsOf k cs with | some l => some (n :: l) | none => none) | none => none) = some ns := h
      split at h'
      · rename_i e _
        have e := e.down
        subst e
        split at h'
        · rename_i l hl
          cases h'
          simp only [RV] at h1
          subst h1
          rw [intsOf_ok hl h2]
          rfl
        · cases h'
      · cases h'
    | _ => exact absurd (show (none : Option (List Int)) = some ns from h) (by simp)

theorem index_ok (hT : TOk P E) {t : Nat} {x i : AV} {vx vi : Value} {r : Res} (hx : RV St w μ x vx) (hi : RV St w μ i vi)
    (hr : (indexR E t x i).run H = some r) (hp : ∀ p ∈ r.ps, p) : Quiet P w St μ (Instr.index t vx vi) r := by
  unfold indexR at hr
  split at hr
  · rename_i s k n
    cases hi
    cases hx
    split at hr
    · rename_i hk
      cases hr
      have h0 : 0 ≤ n := hp _ List.mem_cons_self
      have h1 : n < (s.size : Int) := hp _ (List.mem_cons_of_mem _ List.mem_cons_self)
      have hu := (hT t (by rw [hk]; decide)).k4 hk
      have hil : n.toNat < s.size := by omega
      have hsome : s[n.toNat]? = some (s[n.toNat]'hil) := by simp [hil]
      refine ⟨.int .u8 (s[n.toNat]'hil).toNat, ?_, rfl, ?_⟩
      · simp [Instr.index, asIntOf, run_underlying hu, h0, hsome]
      · simp only [RV, byteAt]
        have : s.data.toList.getD n.toNat 0 = s[n.toNat]'hil := by
          rw [List.getD_eq_getElem?_getD]
          have h2 : n.toNat < s.data.toList.length := by simpa using hil
          rw [List.getElem?_eq_getElem h2]
          rfl
        rw [this]
    · cases hr
  · rename_i cs k n
    cases hi
    obtain ⟨vs, rfl, hvs⟩ := hx
    split at hr
    · rename_i ns hk hk5 hns
      split at hr
      · rename_i hln0
        obtain ⟨hsz1, hln⟩ := andB_true hln0
        have hln' := Nat.eq_of_beq_eq_true hln
        rw [llen_eq] at hln'
        cases hr
        have h0 : 0 ≤ n := hp _ List.mem_cons_self
        have h1 : n < ((E.ti t).len : Int) := hp _ (List.mem_cons_of_mem _ List.mem_cons_self)
        have hu := (hT t (by rw [hk]; decide)).k2 hk
        have hu5 := (hT (E.ti t).elem (by rw [hk5]; decide)).k5 hk5
        have hvs' := intsOf_ok hns hvs
        subst hvs'
        have hil : n.toNat < ns.length := by omega
        have hel : (ns.map (Value.int (E.ti (E.ti t).elem).ik)).toArray[n.toNat * 1]? = some (.int (E.ti (E.ti t).elem).ik (ns.getD n.toNat 0)) := by
          simp [hil, List.getD_eq_getElem?_getD]
        have hsz : (E.ti (E.ti t).elem).size = 1 := Nat.eq_of_beq_eq_true hsz1
        have hag : (isAgg (E.ti t).elem).run P w = .ok false w := by simp [isAgg, run_underlying hu5]
        have hsr := run_sizeOf_ti (P := P) (w := w) hT (t := (E.ti t).elem) (by rw [hk5]; decide)
        rw [hsz] at hsr
        have hpart : (part (E.ti t).elem (ns.map (Value.int (E.ti (E.ti t).elem).ik)).toArray (n.toNat * 1)).run P w = .ok (.int (E.ti (E.ti t).elem).ik (ns.getD n.toNat 0)) w := by
          simp only [part, Sem.run_bind, hag, Result.andThen_ok, Bool.false_eq_true, if_false, hel, Sem.run_pure]
        refine ⟨_, ?_, rfl, rfl⟩
        simp only [Instr.index, asIntOf, Sem.run_bind, Sem.run_pure, Result.andThen_ok, run_underlying hu, h0, h1, and_self, if_true, hsr]
        exact hpart
      · cases hr
    · cases hr
  · cases hr
end
end Go.Proofs.YtaafjaibaaiigaaGreatDoor.Eng
/- Sums, comparisons and other operations on numbers, bools, texts and structs, against the model. Written for this seat's proofs. -/
set_option linter.unusedVariables false
set_option linter.unusedSimpArgs false
namespace Go.Proofs.YtaafjaibaaiigaaGreatDoor.Eng
open Go Go.RowKit

section
variable {P : Program} {E : Env} {B : Zn} {S0 : Nat → Prop} {μ : Nat → Option Wh} {H H' : Nat → Option Ob} {w : World} {St : Nat → Prop}

theorem eqGuard_int {op : BinOp} {t : TypeId} {x y : Operand} {k j : IntKind} {a b : Int} : (eqGuard op t x y (.int k a) (.int j b)).run P w = .ok () w := by cases op <;> rfl
theorem eqGuard_bool {op : BinOp} {t : TypeId} {x y : Operand} {a b : Bool} : (eqGuard op t x y (.bool a) (.bool b)).run P w = .ok () w := by cases op <;> rfl
theorem eqGuard_str {op : BinOp} {t : TypeId} {x y : Operand} {a b : ByteArray} : (eqGuard op t x y (.string a) (.string b)).run P w = .ok () w := by cases op <;> rfl
theorem eqGuard_slice {op : BinOp} {t : TypeId} {x y : Operand} {a b : Option Addr} {m n c d : Nat} : (eqGuard op t x y (.slice a m c) (.slice b n d)).run P w = .ok () w := by cases op <;> rfl

theorem ok_of {s : Sem Value} {r : Res} {ps : List Prop} {c : AV} {u : Value} (hr : (Rd.ok (⟨ps, c, []⟩ : Res)).run H = some r) (hs : (∀ p ∈ ps, p) → s.run P w = .ok u w) (hc : RV St w μ c u) (hp : ∀ p ∈ r.ps, p) : Quiet P w St μ s r := by
  cases hr
  exact ⟨u, hs hp, rfl, hc⟩

theorem bits_ok {op : BinOp} {k : IntKind} {a b : Int} {r : Res} (hr : (bitsR op k a b).run H = some r) (hp : ∀ p ∈ r.ps, p) : Quiet P w St μ (Op.intBits op k a b) r := by
  cases op <;> first
    | (cases hr; done)
    | (exact ok_of hr (fun _ => rfl) rfl hp)

theorem int_ok {op : BinOp} {t : TypeId} {k : IntKind} {a b : Int} {r : Res} (h1 : op ≠ .shl) (h2 : op ≠ .shr) (hr : (intR op k a b).run H = some r) (hp : ∀ p ∈ r.ps, p) : Quiet P w St μ (binOp op t (.int k a) (.int k b)) r := by
  have bits : (match op with | .and | .or | .xor | .andNot => true | _ => false) = true → Quiet P w St μ (binOp op t (.int k a) (.int k b)) r := by
    intro hb
    have e : binOp op t (.int k a) (.int k b) = Op.intBits op k a b := by
      cases op <;> simp at hb <;> simp [binOp]
    rw [e]
    exact bits_ok (H := H) (by cases op <;> simp at hb <;> exact hr) hp
  cases op with
  | add => exact ok_of hr (fun _ => by simp [binOp, Op.intArith]) rfl hp
  | sub => exact ok_of hr (fun _ => by simp [binOp, Op.intArith]) rfl hp
  | mul => exact ok_of hr (fun _ => by simp [binOp, Op.intArith]) rfl hp
  | quo => exact ok_of hr (fun h => by have h0 : b ≠ 0 := h _ List.mem_cons_self; simp [binOp, Op.intDiv, h0]) rfl hp
  | rem => exact ok_of hr (fun h => by have h0 : b ≠ 0 := h _ List.mem_cons_self; simp [binOp, Op.intDiv, h0]) rfl hp
  | eql => exact ok_of hr (fun _ => by simp [binOp, Op.intCmp]; rfl) rfl hp
  | neq => exact ok_of hr (fun _ => by simp [binOp, Op.intCmp]; rfl) rfl hp
  | lss => exact ok_of hr (fun _ => by simp [binOp, Op.intCmp]) rfl hp
  | leq => exact ok_of hr (fun _ => by simp [binOp, Op.intCmp]) rfl hp
  | gtr => exact ok_of hr (fun _ => by simp [binOp, Op.intCmp]) rfl hp
  | geq => exact ok_of hr (fun _ => by simp [binOp, Op.intCmp]) rfl hp
  | and => exact bits rfl
  | or => exact bits rfl
  | xor => exact bits rfl
  | andNot => exact bits rfl
  | shl => exact absurd rfl h1
  | shr => exact absurd rfl h2

theorem str_ok {op : BinOp} {t : TypeId} {a b : ByteArray} {r : Res} (hr : (strR op a b).run H = some r) (hp : ∀ p ∈ r.ps, p) : Quiet P w St μ (binOp op t (.string a) (.string b)) r := by
  have e : binOp op t (.string a) (.string b) = Op.stringOp op a b := by cases op <;> rfl
  rw [e]
  cases op <;> first
    | (cases hr; done)
    | (exact ok_of hr (fun _ => rfl) rfl hp)
    | skip
  refine ok_of hr (fun h => ?_) (rfl : RV St w μ (.str (a ++ b)) (.string (a ++ b))) hp
  have h0 : a.size + b.size ≤ 1000000000000 := h _ List.mem_cons_self
  have h1 : ¬ ((a.size + b.size : Nat) : Int) > IntKind.i64.max := by
    have : IntKind.i64.max = 9223372036854775807 := by decide
    omega
  simp only [Op.stringOp, h1, if_false]
  rfl

theorem eql_ok {op : BinOp} {e : Bool} {s : Sem Value} {r : Res} (hr : (eqlR op e).run H = some r) (h1 : op = .eql → s.run P w = .ok (.bool e) w) (h2 : op = .neq → s.run P w = .ok (.bool !e) w) : Quiet P w St μ s r := by
  cases op <;> first
    | (cases hr; done)
    | (cases hr; exact ⟨_, h1 rfl, rfl, rfl⟩)
    | (cases hr; exact ⟨_, h2 rfl, rfl, rfl⟩)

theorem eqCells_cons {v : AV} {l q : List AV} {ks : List Nat} {e : Bool} (h : eqCells (v :: l) q ks = some e) : ∃ u q' n ks', q = u :: q' ∧ ks = n :: ks' ∧ ∃ e', eqCells l q' ks' = some e' ∧
    ((∃ k a b, v = .int k a ∧ u = .int k b ∧ n = 5 ∧ e = (decide (a = b) && e')) ∨ (∃ a b, v = .bool a ∧ u = .bool b ∧ n = 7 ∧ e = ((a == b) && e')) ∨ (∃ a b, v = .str a ∧ u = .str b ∧ n = 4 ∧ e = ((a.toList == b.toList) && e'))) := by
  cases q with
  | nil => exact absurd (show (none : Option Bool) = some e from h) (by simp)
  | cons u q =>
    cases ks with
    | nil => exact absurd (show (none : Option Bool) = some e from h) (by simp)
    | cons n ks =>
      have h' : (match (generalizing := false) v, u, n with
          | .int i a, .int j b, 5 => (match kEq i j with | some _ => (match eqCells l q ks with | some e => some (decide (a = b) && e) | none => none) | none => none)
          | .bool a, .bool b, 7 => (match eqCells l q ks with | some e => some ((a == b) && e) | none => none)
          | .str a, .str b, 4 => (match eqCells l q ks with | some e => some ((a.toList == b.toList) && e) | none => none)
          | _, _, _ => none) = some e := h
      split at h'
      · split at h'
        · rename_i ek _
          have ek := ek.down
          subst ek
          split at h'
          · rename_i e' he'
            cases h'
            exact ⟨_, q, _, ks, rfl, rfl, e', he', Or.inl ⟨_, _, _, rfl, rfl, rfl, rfl⟩⟩
          · cases h'
        · cases h'
      · split at h'
        · rename_i e' he'
          cases h'
          exact ⟨_, q, _, ks, rfl, rfl, e', he', Or.inr (Or.inl ⟨_, _, rfl, rfl, rfl, rfl⟩)⟩
        · cases h'
      · split at h'
        · rename_i e' he'
          cases h'
          exact ⟨_, q, _, ks, rfl, rfl, e', he', Or.inr (Or.inr ⟨_, _, rfl, rfl, rfl, rfl⟩)⟩
        · cases h'
      · cases h'

theorem eqFields_ok (hT : TOk P E) (d : Nat) : ∀ (fs : List Field) (k : Nat) (as bs : List AV) (e : Bool) (us vs pre pre' : List Value),
    (fs.zipIdx k).all (fun p => p.1.name != "_" && p.1.offset == p.2 && (match P.underlying p.1.type with | some (.int _) | some .bool | some .string => true | _ => false)) = true →
    pre.length = k → pre'.length = k → fs.length = as.length → eqCells as bs (fs.map fun f => (E.ti f.type).kind) = some e → RVs St w μ as us → RVs St w μ bs vs →
      (Op.eqFields (d + 1) (pre ++ us).toArray (pre' ++ vs).toArray fs).run P w = .ok e w
  | [], k, as, bs, e, us, vs, pre, pre', _, _, _, hl, he, _, _ => by
    have : as = [] := List.length_eq_zero_iff.1 hl.symm
    subst this
    cases bs with
    | nil => have : e = true := (Option.some.inj (show (some true : Option Bool) = some e from he)).symm; subst this; rfl
    | cons _ _ => exact absurd (show (none : Option Bool) = some e from he) (by simp)
  | f :: fs, k, as, bs, e, us, vs, pre, pre', hc, hp, hp', hl, he, hu, hv => by
    cases as with
    | nil => simp at hl
    | cons a as =>
      obtain ⟨b, bs', n, ks', rfl, hks, e', he', hcase⟩ := eqCells_cons he
      simp only [List.map_cons, List.cons.injEq] at hks
      obtain ⟨hn5, rfl⟩ := hks
      obtain ⟨u, us', rfl, hu1, hu2⟩ := hu
      obtain ⟨v, vs', rfl, hv1, hv2⟩ := hv
      simp only [List.zipIdx_cons, List.all_cons, Bool.and_eq_true] at hc
      obtain ⟨⟨⟨hn, ho⟩, hty⟩, hrest⟩ := hc
      have hn' : f.name ≠ "_" := by simpa using hn
      have ho' : f.offset = k := by simpa using ho
      have ih := eqFields_ok hT d fs (k + 1) as bs' e' us' vs' (pre ++ [u]) (pre' ++ [v]) hrest (by simp [hp]) (by simp [hp']) (by simpa using hl) he' hu2 hv2
      have q1 : (pre ++ [u] ++ us').toArray = (pre ++ u :: us').toArray := by simp
      have q2 : (pre' ++ [v] ++ vs').toArray = (pre' ++ v :: vs').toArray := by simp
      rw [q1, q2] at ih
      have hag : (isAgg f.type).run P w = .ok false w := by
        cases hd : P.underlying f.type with
        | none => rw [hd] at hty; simp at hty
        | some d => rw [hd] at hty; cases d <;> simp at hty <;> simp [isAgg, run_underlying hd]
      have g1 : (part f.type (pre ++ u :: us').toArray f.offset).run P w = .ok u w := by
        rw [ho']
        have : (pre ++ u :: us').toArray[k]? = some u := by simp [← hp]
        simp only [part, Sem.run_bind, hag, Result.andThen_ok, Bool.false_eq_true, if_false, this, Sem.run_pure]
      have g2 : (part f.type (pre' ++ v :: vs').toArray f.offset).run P w = .ok v w := by
        rw [ho']
        have : (pre' ++ v :: vs').toArray[k]? = some v := by simp [← hp']
        simp only [part, Sem.run_bind, hag, Result.andThen_ok, Bool.false_eq_true, if_false, this, Sem.run_pure]
      have fin : ∀ r : Bool, e = (r && e') → (Op.equalIn (d + 1) f.type u v).run P w = .ok r w → (Op.eqFields (d + 1) (pre ++ u :: us').toArray (pre' ++ v :: vs').toArray (f :: fs)).run P w = .ok e w := by
        intro r hr hq
        simp only [Op.eqFields, hn', ne_eq, not_false_eq_true, if_true, Sem.run_bind, g1, g2, Result.andThen_ok, hq]
        cases r
        · simp [hr]
        · simp only [Bool.not_true, Bool.false_eq_true, if_false, ih, hr, Bool.true_and]
      rcases hcase with ⟨j, x, y, rfl, rfl, rfl, h⟩ | ⟨x, y, rfl, rfl, rfl, h⟩ | ⟨x, y, rfl, rfl, rfl, h⟩
      · simp only [RV] at hu1 hv1
        subst hu1 hv1
        exact fin _ h ((run_equalIn_int w d f.type j _ x y ((hT f.type (by rw [hn5]; decide)).k5 hn5)).trans rfl)
      · simp only [RV] at hu1 hv1
        subst hu1 hv1
        exact fin _ h (run_equalIn_bool' w d f.type x y ((hT f.type (by rw [hn5]; decide)).k7 hn5))
      · simp only [RV] at hu1 hv1
        subst hu1 hv1
        exact fin _ h (run_equalIn_string w d f.type x y ((hT f.type (by rw [hn5]; decide)).k4 hn5))

theorem bin_ok (hT : TOk P E) {op : BinOp} {t : Nat} {x y : Operand} {a b : AV} {va vb : Value} {r : Res} (ha : RV St w μ a va) (hb : RV St w μ b vb) (hr : (binR E op t a b).run H = some r) (hp : ∀ p ∈ r.ps, p) :
    Quiet P w St μ (do eqGuard op t x y va vb; binOp op t va vb) r := by
  have guard : (eqGuard op t x y va vb).run P w = .ok () w → Quiet P w St μ (binOp op t va vb) r → Quiet P w St μ (do eqGuard op t x y va vb; binOp op t va vb) r := by
    rintro hg ⟨u, h1, h2, h3⟩
    exact ⟨u, by simp only [Sem.run_bind, hg, Result.andThen_ok, h1], h2, h3⟩
  unfold binR at hr
  split at hr
  · rename_i k a j b
    cases ha
    cases hb
    refine guard eqGuard_int ?_
    split at hr
    · refine ok_of hr (fun h => ?_) rfl hp
      have h0 : 0 ≤ b := h _ List.mem_cons_self
      have h1 : ¬ b < 0 := by omega
      simp [binOp, Op.shift, h1]
    · refine ok_of hr (fun h => ?_) rfl hp
      have h0 : 0 ≤ b := h _ List.mem_cons_self
      have h1 : ¬ b < 0 := by omega
      simp [binOp, Op.shift, h1]
    · rename_i h1 h2
      split at hr
      · rename_i e _
        have e := e.down
        subst e
        exact int_ok (fun e => h1 e) (fun e => h2 e) hr hp
      · cases hr
  · cases ha
    cases hb
    exact guard eqGuard_str (str_ok hr hp)
  · rename_i a b
    cases ha
    cases hb
    refine guard eqGuard_bool ?_
    split at hr
    · rename_i hk
      have hu := (hT t (by rw [hk]; decide)).k7 hk
      have he : ∀ u : Bool × Bool, (Op.equal t (.bool u.1) (.bool u.2)).run P w = .ok (u.1 == u.2) w := fun u => run_equalIn_bool' w 9999 t u.1 u.2 hu
      refine eql_ok hr (fun e => ?_) (fun e => ?_)
      · subst e
        simp only [binOp, Sem.run_bind, he (a, b), Result.andThen_ok, Sem.run_pure]
      · subst e
        simp only [binOp, Sem.run_bind, he (a, b), Result.andThen_ok, Sem.run_pure]
    · cases hr
  · rename_i a b
    obtain ⟨us, rfl, hus⟩ := ha
    obtain ⟨vs, rfl, hvs⟩ := hb
    split at hr
    · rename_i e hc he
      obtain ⟨c1, c23⟩ := andB_true hc
      obtain ⟨c2, c3⟩ := andB_true c23
      have hk := Nat.eq_of_beq_eq_true c2
      have hl := Nat.eq_of_beq_eq_true c3
      rw [llen_eq, llen_eq] at hl
      obtain ⟨fs, f1, f2⟩ := (hT t (by rw [hk]; decide)).cmp c1
      obtain ⟨fs', g1, g2⟩ := (hT t (by rw [hk]; decide)).k3 hk
      rw [f1] at g1
      cases g1
      rw [g2] at hl
      rw [lmap_eq, g2, List.map_map] at he
      unfold cmpOf at f2
      simp only [Bool.and_eq_true] at f2
      obtain ⟨⟨f3, f4⟩, f5⟩ := f2
      have hst : P.stoodInHeld t = false := by simpa using f3
      have hgt : P.eqGuardType P.depth t = false := by simpa using f4
      have hfo : P.fieldsOf t = fs := by simp [Program.fieldsOf, f1]
      have hrun : (Op.equalIn 10000 t (.agg us.toArray) (.agg vs.toArray)).run P w = .ok e w := by
        rw [run_equalIn_struct w 9999 t us.toArray vs.toArray (by rw [hfo]; exact f1) hst, hfo]
        have := eqFields_ok (St := St) (μ := μ) (w := w) hT 9998 fs.toList 0 a b e us vs [] [] f5 rfl rfl (by rw [hl]; simp) he hus hvs
        simpa using this
      refine guard (run_eqGuard_agg w op t x y _ _ hgt) (eql_ok hr (fun h => ?_) (fun h => ?_))
      · subst h
        rw [run_eql_struct, hrun]
        rfl
      · subst h
        rw [run_neq_struct, hrun]
        rfl
    · cases hr
  · cases ha
    cases hb
    refine guard eqGuard_slice ?_
    split at hr
    · rename_i hk
      have hu := (hT t (by rw [hk]; decide)).k1 hk
      have he : (Op.equal t (.slice none 0 0) (.slice none 0 0)).run P w = .ok true w := by
        have g : ∀ d : Nat, (Op.equalIn (d + 1) t (.slice none 0 0) (.slice none 0 0)).run P w = .ok true w := by
          intro d
          simp only [Op.equalIn, Sem.run_bind, run_underlying hu, Result.andThen_ok]
          rfl
        exact g 9999
      refine eql_ok hr (fun e => ?_) (fun e => ?_)
      · subst e
        simp only [binOp, Sem.run_bind, he, Result.andThen_ok, Sem.run_pure]
      · subst e
        simp only [binOp, Sem.run_bind, he, Result.andThen_ok, Sem.run_pure]
    · cases hr
  · rename_i tt ys
    obtain ⟨ad, c, rfl, _, _⟩ := ha
    cases hb
    refine guard eqGuard_slice ?_
    split at hr
    · rename_i hk
      have hu := (hT t (by rw [hk]; decide)).k1 hk
      have he : (Op.equal t (.slice (some ad) ys.length c) (.slice none 0 0)).run P w = .ok false w := by
        have g : ∀ d n : Nat, (Op.equalIn (d + 1) t (.slice (some ad) n c) (.slice none 0 0)).run P w = .ok false w := by
          intro d n
          simp only [Op.equalIn, Sem.run_bind, run_underlying hu, Result.andThen_ok]
          rfl
        exact g 9999 _
      refine eql_ok hr (fun e => ?_) (fun e => ?_)
      · subst e
        simp only [binOp, Sem.run_bind, he, Result.andThen_ok, Sem.run_pure]
      · subst e
        simp only [binOp, Sem.run_bind, he, Result.andThen_ok, Sem.run_pure]
    · cases hr
  · cases hr

theorem un_ok {op : UnOp} {a : AV} {va : Value} {r : Res} (ha : RV St w μ a va) (hr : (unR op a).run H = some r) (hp : ∀ p ∈ r.ps, p) : Quiet P w St μ (Op.unary op va) r := by
  unfold unR at hr
  split at hr
  · cases ha
    split at hr
    · exact ok_of hr (fun _ => rfl) rfl hp
    · exact bits_ok hr hp
    · cases hr
  · cases ha
    split at hr
    · exact ok_of hr (fun _ => rfl) rfl hp
    · cases hr
  · cases hr

theorem conv_ok (hT : TOk P E) {s d : Nat} {a : AV} {va : Value} {r : Res} (ha : RV St w μ a va) (hr : (convR E s d a).run H = some r) (hp : ∀ p ∈ r.ps, p) : Quiet P w St μ (convert s d va) r := by
  unfold convR at hr
  split at hr
  · cases ha
    split at hr
    · rename_i hk
      obtain ⟨hk1, hk2⟩ := andB_true hk
      have hs : (E.ti s).kind ≠ 0 := by have := Nat.le_of_ble_eq_true hk1; omega
      have hd := Nat.eq_of_beq_eq_true hk2
      obtain ⟨ds, hds, _⟩ := (hT s hs).desc
      have hu := (hT d (by rw [hd]; decide)).k5 hd
      refine ok_of hr (fun _ => ?_) rfl hp
      simp only [convert, Sem.run_bind, run_underlying hds, run_underlying hu, Result.andThen_ok]
      cases ds <;> rfl
    · cases hr
  · cases ha
    split at hr
    · rename_i hs hd
      have h1 := (hT s (by rw [hs]; decide)).k4 hs
      have h2 := (hT d (by rw [hd]; decide)).k4 hd
      refine ok_of hr (fun _ => ?_) rfl hp
      simp [convert, run_underlying h1, run_underlying h2]
    · cases hr
  · cases hr
end
end Go.Proofs.YtaafjaibaaiigaaGreatDoor.Eng
/- New memory: variables, made slices, literals; against the model. Written for this seat's proofs. -/
set_option linter.unusedVariables false
set_option linter.unusedSimpArgs false
namespace Go.Proofs.YtaafjaibaaiigaaGreatDoor.Eng
open Go Go.RowKit

section
variable {P : Program} {E : Env} {B : Zn} {S0 : Nat → Prop} {μ : Nat → Option Wh} {H H' : Nat → Option Ob} {w : World} {St : Nat → Prop}

theorem RVs_of_get : ∀ {cs : List AV} {vs : List Value}, vs.length = cs.length → (∀ (i : Nat) (c : AV), cs[i]? = some c → ∃ v, vs[i]? = some v ∧ RV St w μ c v) → RVs St w μ cs vs
  | [], vs, hl, _ => List.length_eq_zero_iff.1 hl
  | c :: cs, vs, hl, h => by
    cases vs with
    | nil => simp at hl
    | cons v vs =>
      refine ⟨v, vs, rfl, ?_, RVs_of_get (by simpa using hl) fun i c hc => ?_⟩
      · obtain ⟨v', h1, h2⟩ := h 0 c rfl
        simp at h1
        subst h1
        exact h2
      · obtain ⟨v', h1, h2⟩ := h (i + 1) c (by simpa using hc)
        exact ⟨v', by simpa using h1, h2⟩

theorem repl_len {α : Type} (l : List α) : ∀ n, (repl l n).length = n * l.length
  | 0 => by rw [Nat.zero_mul]; rfl
  | n + 1 => by
    show (lapp l (repl l n)).length = _
    rw [lapp_eq, List.length_append, repl_len l n, Nat.add_mul, Nat.one_mul, Nat.add_comm]
theorem repl_get {α : Type} (l : List α) : ∀ n i, i < n * l.length → (repl l n)[i]? = l[i % l.length]?
  | 0, i, h => by simp at h
  | n + 1, i, h => by
    show (lapp l (repl l n))[i]? = _
    rw [lapp_eq]
    by_cases hi : i < l.length
    · rw [List.getElem?_append_left hi, Nat.mod_eq_of_lt hi]
    · have h2 : i - l.length < n * l.length := by
        rw [Nat.add_mul, Nat.one_mul] at h
        omega
      rw [List.getElem?_append_right (by omega), repl_get l n _ h2]
      congr 1
      conv => rhs; rw [← Nat.sub_add_cancel (Nat.le_of_not_lt hi), Nat.add_mod_right]

theorem RVs_made {zs : List AV} {z : Array Value} {n : Nat} (h : RVs St w μ zs z.toList) : RVs St w μ (repl zs n) (madeCells z (n * z.size)).toList := by
  have hl : zs.length = z.size := by have := h.len; simpa using this.symm
  refine RVs_of_get (by simp [size_madeCells, repl_len, hl]) fun i c hc => ?_
  have hi : i < n * zs.length := by
    have := (List.getElem?_eq_some_iff.1 hc).1
    rwa [repl_len] at this
  rw [repl_get zs n i hi] at hc
  obtain ⟨v, hv, hr⟩ := h.get hc
  refine ⟨v, ?_, hr⟩
  have hi' : i < n * z.size := by rw [← hl]; exact hi
  have hm : i % z.size < z.size := by
    rcases Nat.eq_zero_or_pos z.size with e | e
    · rw [e] at hi'; simp at hi'
    · exact Nat.mod_lt _ e
  rw [hl] at hv
  simp only [madeCells, Array.toList_map, Array.toList_range, List.getElem?_map, List.getElem?_range hi', Option.map_some]
  simp only [Array.getElem?_toList] at hv
  simp [getElem!_def, hv]

/-- What is told of a type with a zero value. -/
theorem TOk.zero (hT : TOk P E) {t : Nat} (hk : (E.ti t).kind ≠ 0) (hz : (E.ti t).zero ≠ []) : ∃ f z, P.info? t = some f ∧ f.size = (E.ti t).size ∧ f.bytes = (E.ti t).bytes ∧ f.zero = some z ∧ (E.ti t).zero = z.cells.toList.map ofCell := by
  obtain ⟨f, h1, h2, h3, h4⟩ := (hT t hk).info
  cases hf : f.zero with
  | none => rw [hf] at h4; exact absurd h4 hz
  | some z => rw [hf] at h4; exact ⟨f, z, h1, h2, h3, hf, h4⟩
theorem TI.none_zero {t : Nat} (h : (E.ti t).zero ≠ []) (h0 : ∀ i : TI, i.kind = 0 → i.zero = []) : (E.ti t).kind ≠ 0 := fun e => h (h0 _ e)

theorem pow8 {base q : Nat} (hq : q < base ∨ base + 8 ≤ q) : q ≠ base := by omega

/-- A box for some cells. -/
theorem newBox (hs : HS B S0 μ H w) {base : Nat} (hm : μ base = none) {cs : List AV} {vs : Array Value} (e : TypeId) (hv : RVs (Stb B S0 μ H w) w μ cs vs.toList) :
    ∃ μ', Done B S0 μ H w base (upd H base (some (.box cs))) (.ptr base 0 0) (.pointer (some ⟨w.heap.size, 0, none⟩)) μ' (w.alloc (.cells vs e)) := by
  obtain ⟨hs', k⟩ := hs.alloc hm ⟨some ⟨w.heap.size, 0, none⟩, cs.length, 1, 1⟩ (.cells vs e) (.box cs) rfl fun k =>
    ⟨w.heap.size, vs.toList, e, more_same _ _, hs.bsz.new, by rw [Array.toArray_toList]; exact heap_alloc_new w _, RVs.mono k (more_ext _ hm) _ _ hv⟩
  exact ⟨_, more_ext _ hm, fun q hq => more_other _ (pow8 hq), hs', k, ⟨_, w.heap.size, 0, more_same _ _, rfl, Nat.one_pos, by simp⟩, (Bel.refl _ _).alloc hs.bsz _⟩

/-- A row of its own for some elements. -/
theorem newArr (hs : HS B S0 μ H w) {base : Nat} (hm : μ base = none) {t : Ty} {xs : List t.D} {cells : Array Value} {c : Nat} (e : TypeId) (hc : xs.length ≤ c) (hl : c * t.size ≤ cells.size)
    (hx : ∀ i x, xs[i]? = some x → ∃ us, us.length = t.size ∧ t.rep (Stb B S0 μ H w) w x us ∧ ∀ j u, us[j]? = some u → cells[i * t.size + j]? = some u) :
    ∃ μ', Done B S0 μ H w base (upd H base (some (.arr t xs))) (.own base) (.slice (some ⟨w.heap.size, 0, none⟩) xs.length c) μ' (w.alloc (.cells cells e)) := by
  obtain ⟨hs', k⟩ := hs.alloc hm ⟨some ⟨w.heap.size, 0, none⟩, t.size, xs.length, c⟩ (.cells cells e) (.arr t xs) rfl fun k =>
    ⟨_, more_same _ _, rfl, rfl, hc, fun h => (by cases h), fun a ha => by
      cases ha
      refine ⟨rfl, hs.bsz.new, cells, e, heap_alloc_new w _, by simpa using hl, fun i x hix => ?_⟩
      obtain ⟨us, h1, h2, h3⟩ := hx i x hix
      exact ⟨us, h1, t.rep_mono k _ _ h2, fun j u hu => by simpa using h3 j u hu⟩⟩
  exact ⟨_, more_ext _ hm, fun q hq => more_other _ (pow8 hq), hs', k, ⟨_, more_same _ _, rfl⟩, (Bel.refl _ _).alloc hs.bsz _⟩

theorem alloc_ok (hT : TOk P E) (hs : HS B S0 μ H w) {base e : Nat} (hm : μ base = none) {z : AV} {zs : List AV} (hk : (E.ti e).kind ≠ 0) (hz : (E.ti e).zero = z :: zs) :
    ∃ v w' μ', (Instr.alloc e true (.tuple #[])).run P w = .ok v w' ∧ Done B S0 μ H w base (upd H base (some (.box (z :: zs)))) (.ptr base 0 0) v μ' w' := by
  obtain ⟨f, zv, h1, h2, h3, h4, h5⟩ := hT.zero hk (by rw [hz]; simp)
  obtain ⟨μ', hd⟩ := newBox hs hm (cs := z :: zs) (vs := zv.cells) e (by rw [← hz, h5]; exact RVs_ofCell _)
  refine ⟨_, _, μ', ?_, hd⟩
  simp only [Instr.alloc, zeroValue, typeInfo, Sem.run_bind, run_program, Result.andThen_ok, h1, h4, Sem.run_pure, newVar, newRow, run_newObj]
  rfl

theorem ofCell_nilp {v : Value} (h : ofCell v = .nilp) : v = .pointer none := by
  unfold ofCell at h
  split at h <;> first | rfl | cases h
theorem ofCell_nilsl {v : Value} (h : ofCell v = .nilsl) : v = .slice none 0 0 := by
  unfold ofCell at h
  split at h <;> first | rfl | cases h
/-- A new builder. -/
theorem allocT_ok (hT : TOk P E) (hs : HS B S0 μ H w) {base e : Nat} (hm : μ base = none) (hk : (E.ti e).kind ≠ 0) (hz : (E.ti e).zero = [.nilp, .nilsl]) :
    ∃ v w' μ', (Instr.alloc e true (.tuple #[])).run P w = .ok v w' ∧ Done B S0 μ H w base (upd H base (some (.tbx e none))) (.ptr base 0 0) v μ' w' := by
  obtain ⟨f, zv, h1, h2, h3, h4, h5⟩ := hT.zero hk (by rw [hz]; simp)
  have hc : zv.cells = #[.pointer none, .slice none 0 0] := by
    rw [hz] at h5
    obtain ⟨l, hl⟩ : ∃ l : List Value, zv.cells = l.toArray := ⟨zv.cells.toList, by simp⟩
    rw [hl] at h5
    have h5 : [AV.nilp, AV.nilsl] = l.map ofCell := h5
    rw [hl]
    match l, h5 with
    | [a, b], h5 =>
      simp only [List.map_cons, List.map_nil, List.cons.injEq, and_true] at h5
      rw [ofCell_nilp h5.1.symm, ofCell_nilsl h5.2.symm]
    | [], h5 => exact absurd (congrArg List.length h5) (by simp)
    | [_], h5 => exact absurd (congrArg List.length h5) (by simp)
    | _ :: _ :: _ :: _, h5 => exact absurd (congrArg List.length h5) (by simp)
  obtain ⟨hs', k⟩ := hs.alloc hm ⟨some ⟨w.heap.size, 0, none⟩, 2, 1, 1⟩ (.cells zv.cells e) (.tbx e none) rfl fun k =>
    ⟨w.heap.size, .pointer none, .slice none 0 0, more_same _ _, hs.bsz.new, by rw [hc]; exact heap_alloc_new w _, fun _ => ⟨rfl, rfl⟩, fun g hg => by cases hg⟩
  refine ⟨.pointer (some ⟨w.heap.size, 0, none⟩), _, _, ?_, more_ext _ hm, fun q hq => more_other _ (pow8 hq), hs', k, ⟨_, w.heap.size, 0, more_same _ _, rfl, Nat.one_pos, by simp⟩, (Bel.refl _ _).alloc hs.bsz _⟩
  simp only [Instr.alloc, zeroValue, typeInfo, Sem.run_bind, run_program, Result.andThen_ok, h1, h4, Sem.run_pure, newVar, newRow, run_newObj]
  rfl

theorem box_ok (hs : HS B S0 μ H w) {base e : Nat} (hm : μ base = none) {a : AV} {v : Value} (ha : RV (Stb B S0 μ H w) w μ a v) (hc : (cellsOf a).all AV.cell = true) :
    ∃ u w' μ', (Instr.box e v).run P w = .ok u w' ∧ Done B S0 μ H w base (upd H base (some (.box (cellsOf a)))) (.ptr base 0 0) u μ' w' := by
  obtain ⟨μ', hd⟩ := newBox hs hm (vs := v.cells) e (cells_ok hc ha).1
  refine ⟨_, _, μ', ?_, hd⟩
  simp only [Instr.box, newVar, newRow, Sem.run_bind, run_newObj, Result.andThen_ok, Sem.run_pure]
  rfl

theorem rep_len_of {t : Ty} {cs : List AV} {x : t.D} {q : List AV} {vs : List Value} (h : t.ofCells cs = some (x, q)) (hv : RVs St w μ cs vs) : ∃ us ws, vs = us ++ ws ∧ us.length = t.size ∧ t.rep St w x us ∧ RVs St w μ q ws := by
  obtain ⟨us, ws, h1, h2, h3⟩ := t.rep_of_cells cs x q vs h hv
  exact ⟨us, ws, h1, t.rep_len x us h2, h2, h3⟩

theorem make_ok (hT : TOk P E) (hs : HS B S0 μ H w) {t base : Nat} (hm : μ base = none) {l c : AV} {vl vc : Value} {r : Res} (hl : RV (Stb B S0 μ H w) w μ l vl) (hc : RV (Stb B S0 μ H w) w μ c vc)
    (hr : (makeR E t base l c).run H = some r) (hp : ∀ p ∈ r.ps, p) :
    ∃ u w' μ', (Instr.makeSlice t vl vc).run P w = .ok u w' ∧ Done B S0 μ H w base (upds H r.ups) r.val u μ' w' := by
  unfold makeR at hr
  split at hr
  · rename_i kl n kc c
    cases hl
    cases hc
    split at hr
    · rename_i hk
      split at hr
      · rename_i ty hty
        split at hr
        · rename_i x hx
          split at hr
          · rename_i hke0
            obtain ⟨hke, hsz0⟩ := andB_true hke0
            have hke' : (E.ti (E.ti t).elem).kind ≠ 0 := by have := Nat.le_of_ble_eq_true hke; omega
            cases hr
            have h0 : 0 ≤ n := hp _ List.mem_cons_self
            have h1 : n ≤ c := hp _ (List.mem_cons_of_mem _ List.mem_cons_self)
            have h2 : c * ((E.ti (E.ti t).elem).bytes : Int) ≤ 70368744177664 := hp _ (List.mem_cons_of_mem _ (List.mem_cons_of_mem _ List.mem_cons_self))
            have h3 : c ≤ 70368744177664 := hp _ (List.mem_cons_of_mem _ (List.mem_cons_of_mem _ (List.mem_cons_of_mem _ List.mem_cons_self)))
            have hu := (hT t (by rw [hk]; decide)).k1 hk
            have hz : (E.ti (E.ti t).elem).zero ≠ [] := by
              intro e
              rw [e] at hx
              have := rep_len_of (St := fun _ => True) (w := w) (μ := μ) hx (rfl : RVs _ _ _ [] [])
              obtain ⟨us, ws, q1, q2, _⟩ := this
              have := ty.size_pos
              have : us = [] := (List.append_eq_nil_iff.1 q1.symm).1
              rw [this] at q2
              simp at q2
              omega
            obtain ⟨f, zv, g1, g2, g3, g4, g5⟩ := hT.zero hke' hz
            have hrv : RVs (Stb B S0 μ H w) w μ (E.ti (E.ti t).elem).zero zv.cells.toList := by rw [g5]; exact RVs_ofCell _
            obtain ⟨us, ws, q1, q2, q3, q4⟩ := rep_len_of hx hrv
            simp only [RVs] at q4
            subst q4
            rw [List.append_nil] at q1
            have hsz : zv.cells.size = ty.size := by rw [← q2, ← q1]; simp
            have hfs : f.size = ty.size := by
              rw [g2]; exact Nat.eq_of_beq_eq_true hsz0
            have hrun := run_make (P := P) w t (E.ti t).elem f zv hu g1 g4 kl kc n c h0 h1 (by rw [g3, Int.mul_comm]; omega) (by omega)
            obtain ⟨μ', hd⟩ := newArr hs hm (t := ty) (xs := List.replicate n.toNat x) (cells := madeCells zv.cells (c.toNat * f.size)) (c := c.toNat) (E.ti t).elem (by rw [List.length_replicate]; omega) (by rw [size_madeCells, hfs]; exact Nat.le_refl _) (fun i y hy => by
              have hin : i < n.toNat := by
                have := (List.getElem?_eq_some_iff.1 hy).1
                rwa [List.length_replicate] at this
              rw [List.getElem?_replicate, if_pos hin] at hy
              cases hy
              refine ⟨us, q2, q3, fun j u hj => ?_⟩
              have hjl : j < ty.size := by rw [← q2]; exact (List.getElem?_eq_some_iff.1 hj).1
              have hidx : i * ty.size + j < c.toNat * ty.size := by
                have : (i + 1) * ty.size ≤ c.toNat * ty.size := Nat.mul_le_mul_right _ (by omega)
                rw [Nat.add_mul, Nat.one_mul] at this
                omega
              have hmod : (i * ty.size + j) % ty.size = j := by rw [Nat.add_comm, Nat.add_mul_mod_self_right, Nat.mod_eq_of_lt hjl]
              have hcell : zv.cells[j]? = some u := by
                rw [← Array.getElem?_toList, q1]
                exact hj
              simp only [madeCells, hfs, Array.getElem?_map, Array.getElem?_range, hidx, if_true, Option.map_some, hsz, hmod]
              simp [getElem!_def, hcell])
            refine ⟨_, _, μ', hrun, ?_⟩
            rw [List.length_replicate] at hd
            exact hd
          · cases hr
        · cases hr
      · cases hr
    · cases hr
  · cases hr
theorem makeTab_ok (hT : TOk P E) (hs : HS B S0 μ H w) {t base : Nat} (hm : μ base = none) {l c : AV} {vl vc : Value} {r : Res} (hl : RV (Stb B S0 μ H w) w μ l vl) (hc : RV (Stb B S0 μ H w) w μ c vc)
    (hr : (makeTabR E t base l c).run H = some r) (hp : ∀ p ∈ r.ps, p) :
    ∃ u w' μ', (Instr.makeSlice t vl vc).run P w = .ok u w' ∧ Done B S0 μ H w base (upds H r.ups) r.val u μ' w' := by
  unfold makeTabR at hr
  split at hr
  · rename_i kl n kc c
    cases hl
    cases hc
    split at hr
    · rename_i hk
      split at hr
      · rename_i ty hty
        split at hr
        · rename_i hz0
          split at hr
          · rename_i hke0
            obtain ⟨hke, hsz0⟩ := andB_true hke0
            have hke' : (E.ti (E.ti t).elem).kind ≠ 0 := by have := Nat.le_of_ble_eq_true hke; omega
            cases hr
            have h0 : 0 ≤ n := hp _ List.mem_cons_self
            have h1 : n ≤ c := hp _ (List.mem_cons_of_mem _ List.mem_cons_self)
            have h2 : c * ((E.ti (E.ti t).elem).bytes : Int) ≤ 70368744177664 := hp _ (List.mem_cons_of_mem _ (List.mem_cons_of_mem _ List.mem_cons_self))
            have h3 : c ≤ 70368744177664 := hp _ (List.mem_cons_of_mem _ (List.mem_cons_of_mem _ (List.mem_cons_of_mem _ List.mem_cons_self)))
            have hu := (hT t (by rw [hk]; decide)).k1 hk
            obtain ⟨f, zv, g1, g2, g3, g4, g5⟩ := hT.zero hke' (by rw [hz0]; simp)
            have hrv : RVs (Stb B S0 μ H w) w μ (E.ti (E.ti t).elem).zero zv.cells.toList := by rw [g5]; exact RVs_ofCell _
            rw [hz0] at hrv
            obtain ⟨u, us, q1, q2, q3⟩ := hrv
            simp only [RVs] at q3
            subst q3
            simp only [RV] at q2
            subst q2
            have hsz : zv.cells.size = 1 := by
              have : zv.cells.toList.length = 1 := by rw [q1]; rfl
              simpa using this
            have hfs : f.size = 1 := by
              rw [g2]; exact Nat.eq_of_beq_eq_true hsz0
            have hrun := run_make (P := P) w t (E.ti t).elem f zv hu g1 g4 kl kc n c h0 h1 (by rw [g3, Int.mul_comm]; omega) (by omega)
            have hcell : zv.cells[0]? = some (Value.slice none 0 0) := by
              rw [← Array.getElem?_toList, q1]
              rfl
            obtain ⟨hs', k⟩ := hs.alloc hm ⟨some ⟨w.heap.size, 0, none⟩, 1, n.toNat, c.toNat⟩ (.cells (madeCells zv.cells (c.toNat * f.size)) (E.ti t).elem) (.tab ty n.toNat [] none) rfl fun k =>
              ⟨_, _, _, _, more_same _ _, hs.bsz.new, heap_alloc_new w _, by omega, Nat.zero_le _, (by rw [size_madeCells, hfs, Nat.mul_one]; exact Nat.le_refl _), fun i xs hx => (by simp at hx), fun a ha => (by cases ha), fun i hi _ _ => (by
                have hic : i < c.toNat := by omega
                simp only [madeCells, hfs, Nat.mul_one, Array.getElem?_map, Array.getElem?_range, hic, if_true, Option.map_some, hsz, Nat.mod_one]
                simp [getElem!_def, hcell]), fun h => absurd rfl h⟩
            exact ⟨_, _, _, hrun, more_ext _ hm, fun q hq => more_other _ (pow8 hq), hs', k, ⟨_, more_same _ _, rfl⟩, (Bel.refl _ _).alloc hs.bsz _⟩
          · cases hr
        · cases hr
      · cases hr
    · cases hr
  · cases hr
end
end Go.Proofs.YtaafjaibaaiigaaGreatDoor.Eng
/- Literals, append and copy against the model. Written for this seat's proofs. -/
set_option linter.unusedVariables false
set_option linter.unusedSimpArgs false
namespace Go.Proofs.YtaafjaibaaiigaaGreatDoor.Eng
open Go Go.RowKit

section
variable {P : Program} {E : Env} {B : Zn} {S0 : Nat → Prop} {μ : Nat → Option Wh} {H H' : Nat → Option Ob} {w : World} {St : Nat → Prop}

theorem fold_set (c : Array Value) (off : Nat) : ∀ (vs : List Value) (k : Nat) (cs : Array Value), off + k + vs.length ≤ cs.size →
    ((vs.zipIdx k).foldl (fun cs p => cs.setIfInBounds (off + p.2) p.1) cs).toList = spl cs.toList (off + k) vs
  | [], k, cs, h => by simp [spl]
  | v :: vs, k, cs, h => by
    simp only [List.length_cons] at h
    simp only [List.zipIdx_cons, List.foldl_cons]
    rw [fold_set c off vs (k + 1) _ (by simp; omega)]
    apply List.ext_getElem?
    intro i
    have hl : cs.toList.length = cs.size := by simp
    rw [spl_get (by simp; omega), spl_get (by simp; omega)]
    simp only [Array.toList_setIfInBounds, List.length_cons]
    by_cases h1 : i < off + k
    · rw [if_pos (by omega), if_pos h1, List.getElem?_set_ne (by omega)]
    · by_cases h2 : i = off + k
      · subst h2
        rw [if_pos (by omega), if_neg (by omega), if_pos (by omega), List.getElem?_set_self (by rw [hl]; omega), Nat.sub_self]
        rfl
      · rw [if_neg (by omega), if_neg h1]
        by_cases h3 : i < off + k + (vs.length + 1)
        · rw [if_pos (by omega), if_pos h3]
          have : i - (off + k) = (i - (off + (k + 1))) + 1 := by omega
          rw [this, List.getElem?_cons_succ]
        · rw [if_neg (by omega), if_neg h3, List.getElem?_set_ne (by omega)]

theorem zipIdx_foldl (v : Value) (off : Nat) (cells : Array Value) : (v.cells.zipIdx.foldl (fun cs (p : Value × Nat) => cs.setIfInBounds (off + p.2) p.1) cells) = (v.cells.toList.zipIdx.foldl (fun cs p => cs.setIfInBounds (off + p.2) p.1) cells) := by
  rw [← Array.foldl_toList, Array.toList_zipIdx]

/-- Parts laid into cells. -/
theorem fill_ok {place : Nat → Option (Nat × Nat)} : ∀ {parts : List (Nat × AV)} {vparts : List (Nat × Value)} {cells : List AV} {vcells : Array Value} {out : List AV},
    parts.length = vparts.length → (∀ (i : Nat) (p : Nat × AV), parts[i]? = some p → ∃ v, vparts[i]? = some (p.1, v) ∧ RV St w μ p.2 v) → RVs St w μ cells vcells.toList → fillC place parts cells = some out →
    ∃ vout, Instr.fill place vcells vparts = some vout ∧ RVs St w μ out vout.toList ∧ (cells.all AV.cell = true → out.all AV.cell = true)
  | [], vparts, cells, vcells, out, hl, _, hc, h => by
    have : vparts = [] := List.length_eq_zero_iff.1 hl.symm
    subst this
    cases h
    exact ⟨vcells, rfl, hc, fun h => h⟩
  | p :: parts, vparts, cells, vcells, out, hl, hp, hc, h => by
    cases vparts with
    | nil => simp at hl
    | cons q vparts =>
      obtain ⟨v, hv1, hv2⟩ := hp 0 p rfl
      simp only [List.getElem?_cons_zero, Option.some.injEq] at hv1
      subst hv1
      have h' : (match place p.1 with
        | none => none
        | some q => (match andB (Nat.beq (llen (cellsOf p.2)) q.2) (andB (Nat.ble (q.1 + q.2) (llen cells)) (lall AV.cell (cellsOf p.2))) with
          | true => fillC place parts (splice cells q.1 (cellsOf p.2))
          | false => none)) = some out := h
      split at h'
      · cases h'
      · rename_i q hq
        split at h'
        · rename_i hchk
          obtain ⟨c1, c23⟩ := andB_true hchk
          obtain ⟨c2, c3⟩ := andB_true c23
          have d1 := Nat.eq_of_beq_eq_true c1
          have d2 := Nat.le_of_ble_eq_true c2
          rw [llen_eq] at d1 d2
          rw [lall_eq] at c3
          obtain ⟨hcv, h1c⟩ := cells_ok c3 hv2
          have hcl := hc.len
          have hvl := hcv.len
          have hvl' : v.cells.size = q.2 := by simpa [d1] using hvl
          have hcl' : vcells.size = cells.length := by simpa using hcl
          have hspl := hc.splice (c := q.1) hcv
          obtain ⟨vout, f1, f2, f3⟩ := fill_ok (parts := parts) (vparts := vparts) (vcells := (v.cells.zipIdx.foldl (fun cs (p : Value × Nat) => cs.setIfInBounds (q.1 + p.2) p.1) vcells)) (by simpa using hl) (fun i p' hi => by
            have := hp (i + 1) p' (by simpa using hi)
            simpa using this) (by
            rw [zipIdx_foldl, fold_set #[] q.1 v.cells.toList 0 vcells (by simp; omega)]
            exact hspl) h'
          refine ⟨vout, ?_, f2, fun hall => f3 ?_⟩
          · simp only [Instr.fill, hq]
            rw [if_neg (by simp; omega)]
            exact f1
          · unfold Eng.splice
            rw [lapp_eq, lapp_eq, ltake_eq, ldrop_eq]
            simp only [List.all_append, Bool.and_eq_true]
            refine ⟨?_, c3, ?_⟩
            · exact List.all_eq_true.2 fun x hx => List.all_eq_true.1 hall x (List.mem_of_mem_take hx)
            · exact List.all_eq_true.2 fun x hx => List.all_eq_true.1 hall x (List.mem_of_mem_drop hx)
        · cases h'

theorem parts_ok {ns : List Nat} {as : List AV} {vs : List Value} (hl : ns.length = vs.length) (h : RVs St w μ as vs) : (lzip ns as).length = (ns.zip vs).length ∧ ∀ (i : Nat) (p : Nat × AV), (lzip ns as)[i]? = some p → ∃ v, (ns.zip vs)[i]? = some (p.1, v) ∧ RV St w μ p.2 v := by
  have := h.len
  refine ⟨by rw [lzip_eq]; simp; omega, fun i p hi => ?_⟩
  rw [lzip_eq, List.getElem?_zip_eq_some] at hi
  obtain ⟨v, h1, h2⟩ := h.get hi.2
  exact ⟨v, by rw [List.getElem?_zip_eq_some]; exact ⟨hi.1, h1⟩, h2⟩

theorem ble1 {n : Nat} (h : Nat.ble 1 n = true) : n ≠ 0 := by have := Nat.le_of_ble_eq_true h; omega
theorem zero_ne {l : List AV} (h : Nat.ble 1 (llen l) = true) : l ≠ [] := by
  rintro rfl
  exact ble1 h rfl

theorem build_ok (hT : TOk P E) {t : Nat} {ns : List Nat} {as : List AV} {vs : List Value} {r : Res} (hl : ns.length = vs.length) (h : RVs St w μ as vs) (hr : (buildR E t (lzip ns as)).run H = some r) :
    Quiet P w St μ (Instr.build t (ns.zip vs).toArray) r := by
  obtain ⟨p1, p2⟩ := parts_ok hl h
  unfold buildR at hr
  split at hr
  · rename_i hk
    split at hr
    · rename_i hc
      obtain ⟨hc1, hc2⟩ := andB_true hc
      rw [lall_eq] at hc1
      split at hr
      · rename_i cs hcs
        have hk0 : (E.ti t).kind ≠ 0 := by rw [hk]; decide
        obtain ⟨fs, f1, f2⟩ := (hT t hk0).k3 hk
        obtain ⟨f, zv, g1, g2, g3, g4, g5⟩ := hT.zero hk0 (zero_ne hc2)
        have hrv : RVs St w μ (E.ti t).zero zv.cells.toList := by rw [g5]; exact RVs_ofCell _
        obtain ⟨vout, e1, e2, _⟩ := fill_ok p1 p2 hrv hcs
        cases hr
        refine ⟨.agg vout, run_build w t _ vout ?_, rfl, ⟨vout.toList, by simp, e2⟩⟩
        have places : ∀ l : List Field, (∀ x ∈ l, (E.ti x.type).kind ≠ 0) → l.mapM (fun f => (P.info? f.type).map fun i => (f.offset, i.size)) = some (l.map fun f => (f.offset, (E.ti f.type).size)) := by
          intro l
          induction l with
          | nil => intro _; rfl
          | cons x l ih =>
            intro hx
            obtain ⟨i, i1, i2, _⟩ := (hT x.type (hx x List.mem_cons_self)).info
            simp only [List.mapM_cons, i1, Option.map_some, ih fun y hy => hx y (List.mem_cons_of_mem _ hy), List.map_cons, i2]
            rfl
        have hpl := places fs.toList (fun x hx => by
          rw [f2] at hc1
          have := List.all_eq_true.1 hc1 (x.offset, x.type) (List.mem_map.2 ⟨x, hx, rfl⟩)
          exact ble1 this)
        unfold Program.built
        simp only [g1, f1, g4, hpl]
        have hfn : placeOf E t = fun i => (fs.toList.map fun f => (f.offset, (E.ti f.type).size))[i]? := by
          funext i
          unfold placeOf
          rw [lget_eq, f2, List.getElem?_map, List.getElem?_map]
          cases fs.toList[i]? <;> rfl
        rw [hfn] at e1
        simpa using e1
      · cases hr
    · cases hr
  · rename_i hk
    split at hr
    · rename_i hc
      obtain ⟨hc1, hc2⟩ := andB_true hc
      split at hr
      · rename_i cs hcs
        have hk0 : (E.ti t).kind ≠ 0 := by rw [hk]; decide
        have f1 := (hT t hk0).k2 hk
        obtain ⟨f, zv, g1, g2, g3, g4, g5⟩ := hT.zero hk0 (zero_ne hc2)
        have hrv : RVs St w μ (E.ti t).zero zv.cells.toList := by rw [g5]; exact RVs_ofCell _
        obtain ⟨vout, e1, e2, _⟩ := fill_ok p1 p2 hrv hcs
        obtain ⟨fe, i1, i2, _⟩ := (hT (E.ti t).elem (ble1 hc1)).info
        cases hr
        refine ⟨.agg vout, run_build w t _ vout ?_, rfl, ⟨vout.toList, by simp, e2⟩⟩
        unfold Program.built
        simp only [g1, f1, g4, i1]
        rw [← i2] at e1
        simpa using e1
      · cases hr
    · cases hr
  · cases hr

theorem elems_ok {t : Ty} : ∀ {n : Nat} {cs : List AV} {xs : List t.D} {vs : List Value}, elems t n cs = some xs → RVs St w μ cs vs → xs.length = n ∧ vs.length = n * t.size ∧
    ∀ i x, xs[i]? = some x → ∃ us, us.length = t.size ∧ t.rep St w x us ∧ ∀ j u, us[j]? = some u → vs[i * t.size + j]? = some u
  | 0, cs, xs, vs, h, hv => by
    cases cs with
    | nil =>
      have : xs = [] := (Option.some.inj (show (some [] : Option (List t.D)) = some xs from h)).symm
      subst this
      simp only [RVs] at hv
      subst hv
      refine ⟨rfl, by simp, fun i x hx => ?_⟩
      simp at hx
    | cons c cs => exact absurd (show (none : Option (List t.D)) = some xs from h) (by simp)
  | n + 1, cs, xs, vs, h, hv => by
    have h' : (match t.ofCells cs with
      | some (x, q) => (match elems t n q with | some xs => some (x :: xs) | none => none)
      | none => none) = some xs := h
    split at h'
    · rename_i x q hx
      split at h'
      · rename_i ys hys
        cases h'
        obtain ⟨us, ws, rfl, q2, q3, q4⟩ := rep_len_of hx hv
        obtain ⟨a1, a2, a3⟩ := elems_ok hys q4
        refine ⟨by simp [a1], by rw [List.length_append, q2, a2, Nat.add_mul, Nat.one_mul, Nat.add_comm], fun i y hy => ?_⟩
        cases i with
        | zero =>
          simp only [List.getElem?_cons_zero, Option.some.injEq] at hy
          subst hy
          refine ⟨us, q2, q3, fun j u hj => ?_⟩
          have := (List.getElem?_eq_some_iff.1 hj).1
          rw [Nat.zero_mul, Nat.zero_add, List.getElem?_append_left this]
          exact hj
        | succ i =>
          rw [List.getElem?_cons_succ] at hy
          obtain ⟨us', b1, b2, b3⟩ := a3 i y hy
          refine ⟨us', b1, b2, fun j u hj => ?_⟩
          have e : (i + 1) * t.size + j = us.length + (i * t.size + j) := by rw [Nat.add_mul, Nat.one_mul, q2]; omega
          rw [e, List.getElem?_append_right (by omega), Nat.add_sub_cancel_left]
          exact b3 j u hj
      · cases h'
    · cases h'

theorem upds_of_none {u : List (Nat × Option Ob)} {h : Nat} {o : Option Ob} (hu : ∀ p ∈ u, p.2 = none) (hn : ∀ p ∈ u, p.1 ≠ h) : upds H ((h, o) :: u) = upd (upds H u) h o := by
  rw [upds_cons]
  funext q
  have g1 := gives hu (H := upd H h o)
  have g2 := gives hu (H := H)
  by_cases hq : ∃ p ∈ u, p.1 = q
  · rw [g1.1 q hq]
    obtain ⟨p, hp, rfl⟩ := hq
    rw [upd_other _ (hn p hp), g2.1 _ ⟨p, hp, rfl⟩]
  · have hq' : ∀ p ∈ u, p.1 ≠ q := fun p h1 h2 => hq ⟨p, h1, h2⟩
    rw [g1.2 q hq']
    by_cases e : q = h
    · subst e; rw [upd_same, upd_same]
    · rw [upd_other _ e, upd_other _ e, g2.2 q hq']

theorem buildSlice_ok (hT : TOk P E) (hs : HS B S0 μ H w) {base t len : Nat} (hm : μ base = none) {ns : List Nat} {as : List AV} {vs : List Value} {r : Res} (hl : ns.length = vs.length) (h : RVs (Stb B S0 μ H w) w μ as vs)
    (hr : (buildSliceR E t len (lzip ns as) base).run H = some r) :
    ∃ u w' μ', (Instr.buildSlice t len (ns.zip vs).toArray).run P w = .ok u w' ∧ r.ps = [] ∧ Done B S0 μ H w base (upds H r.ups) r.val u μ' w' := by
  obtain ⟨p1, p2⟩ := parts_ok hl h
  unfold buildSliceR at hr
  split at hr
  · rename_i hk
    split at hr
    · rename_i ty hty hchk
      obtain ⟨c12, c34⟩ := andB_true hchk
      obtain ⟨c1, c2'⟩ := andB_true c12
      obtain ⟨c2, c5⟩ := andB_true c2'
      obtain ⟨c3, c4⟩ := andB_true c34
      split at hr
      · rename_i cs hcs
        obtain ⟨g, hg, hr⟩ := bind_ok hr
        split at hr
        · rename_i xs hxs
          have hu := (hT t (by rw [hk]; decide)).k1 hk
          obtain ⟨f, zv, g1, g2, g3, g4, g5⟩ := hT.zero (ble1 c1) (zero_ne c2)
          have hrv : RVs (Stb B S0 μ H w) w μ (E.ti (E.ti t).elem).zero zv.cells.toList := by rw [g5]; exact RVs_ofCell _
          have hzs : zv.cells.size = (E.ti (E.ti t).elem).size := by
            have := Nat.eq_of_beq_eq_true c5
            rw [llen_eq] at this
            rw [← this, ← hrv.len]
            simp
          obtain ⟨vout, e1, e2, _⟩ := fill_ok p1 p2 (RVs_made (n := len) hrv) hcs
          cases hr
          obtain ⟨a1, a2, a3, a4⟩ := give_ok hs e2 hg
          obtain ⟨hs1, k1⟩ := hs.gives_ok (fun p hp => (a1 p hp).1)
          have hgv := gives (u := g.2) (fun p hp => (a1 p hp).1) (H := H)
          have hsub : ∀ q, upds H g.2 q ≠ none → H q ≠ none := by
            intro q hq
            by_cases hin : ∃ p ∈ g.2, p.1 = q
            · exact absurd (hgv.1 q hin) hq
            · rwa [hgv.2 q (fun p h1 h2 => hin ⟨p, h1, h2⟩)] at hq
          have hv1 := a4 (fun p hp => hgv.1 p.1 ⟨p, hp, rfl⟩) hsub k1
          obtain ⟨b1, b2, b3⟩ := elems_ok hxs hv1
          obtain ⟨μ', hd⟩ := newArr hs1 hm (t := ty) (xs := xs) (cells := vout) (c := len) (E.ti t).elem (by omega) (by rw [← b2]; simp) (fun i x hx => by
            obtain ⟨us, d1, d2, d3⟩ := b3 i x hx
            exact ⟨us, d1, d2, fun j u hj => by rw [← Array.getElem?_toList]; exact d3 j u hj⟩)
          have hnb : ∀ p ∈ g.2, p.1 ≠ base := by
            rintro p hp rfl
            exact (a1 p hp).2 (hs.live hm)
          refine ⟨_, _, μ', run_buildSlice w t (E.ti t).elem len _ vout f zv hu g1 g4 ?_ ?_ ?_, rfl, ?_⟩
          · have := Nat.le_of_ble_eq_true c3
            rw [g2]
            omega
          · have := Nat.le_of_ble_eq_true c4
            have h2 : 0 < (E.ti (E.ti t).elem).size := by
              have := Nat.eq_of_beq_eq_true c5
              have := ble1 c2
              omega
            rw [g2]
            have := Nat.mul_pos this h2
            omega
          · rw [g2]
            rw [hzs] at e1
            have e1' := e1
            unfold madeCells at e1'
            simpa using e1'
          · rw [upds_of_none (fun p hp => (a1 p hp).1) hnb]
            rw [b1] at hd
            exact ⟨hd.ext, hd.new, hd.hs, k1.trans hd.keep, hd.val, hd.bel⟩
        · cases hr
      · cases hr
    · cases hr
  · cases hr
theorem empty_ok (hT : TOk P E) (hs : HS B S0 μ H w) {base t : Nat} (hm : μ base = none) {r : Res} (hr : (emptyR E t base).run H = some r) :
    ∃ u w' μ', (Instr.buildSlice t 0 #[]).run P w = .ok u w' ∧ r.ps = [] ∧ Done B S0 μ H w base (upds H r.ups) r.val u μ' w' := by
  unfold emptyR at hr
  split at hr
  · rename_i hk
    split at hr
    · rename_i ty hty hke
      cases hr
      have hu := (hT t (by rw [hk]; decide)).k1 hk
      obtain ⟨f, g1, g2, _, _⟩ := (hT (E.ti t).elem (ble1 hke)).info
      obtain ⟨μ', hd⟩ := newArr hs hm (t := ty) (xs := []) (cells := #[]) (c := 0) (E.ti t).elem (Nat.le_refl _) (by simp) (fun i x hx => by simp at hx)
      refine ⟨_, _, μ', ?_, rfl, hd⟩
      simp only [Instr.buildSlice, Sem.run_bind, run_underlying hu, Result.andThen_ok, sizeOf, typeInfo, run_program, g1, Sem.run_pure, Nat.zero_mul]
      simp [Instr.fill, newRow]
      rw [show Array.map (fun x => (default : Value)) (Array.range 0) = #[] by simp [Array.range]]
    · cases hr
  · cases hr
end
end Go.Proofs.YtaafjaibaaiigaaGreatDoor.Eng
/- Append and copy against the model. Written for this seat's proofs. -/
set_option linter.unusedVariables false
set_option linter.unusedSimpArgs false
namespace Go.Proofs.YtaafjaibaaiigaaGreatDoor.Eng
open Go Go.RowKit

section
variable {P : Program} {E : Env} {B : Zn} {S0 : Nat → Prop} {μ : Nat → Option Wh} {H H' : Nat → Option Ob} {w w' : World} {St : Nat → Prop}

theorem one_of_cells : ∀ {cs : List AV} {vs : List Value}, cs.all AV.cell = true → RVs St w μ cs vs → ∀ u ∈ vs, u.oneCell' = true
  | [], vs, _, h, u, hu => by simp only [RVs] at h; subst h; cases hu
  | c :: cs, vs, h1, h, u, hu => by
    obtain ⟨x, xs, rfl, h2, h3⟩ := h
    simp only [List.all_cons, Bool.and_eq_true] at h1
    rcases List.mem_cons.1 hu with rfl | hu
    · exact RV.one h1.1 h2
    · exact one_of_cells h1.2 h3 u hu
theorem Ty.rep_one {t : Ty} {x : t.D} {us : List Value} (h : t.rep St w x us) : ∀ u ∈ us, u.oneCell' = true :=
  one_of_cells (μ := fun _ => none) (t.toCells_cell x) (t.cells_of_rep x us h)

/-- The cells of a row, one behind another. -/
theorem flat_cells {t : Ty} {xs : List t.D} {get : Nat → Option Value}
    (h : ∀ i x, xs[i]? = some x → ∃ us, us.length = t.size ∧ t.rep St w x us ∧ ∀ j u, us[j]? = some u → get (i * t.size + j) = some u) :
    ∃ news : List Value, news.length = xs.length * t.size ∧ (∀ p u, news[p]? = some u → get p = some u) ∧ (∀ u ∈ news, u.oneCell' = true) ∧
      ∀ i x, xs[i]? = some x → ∃ us, us.length = t.size ∧ t.rep St w x us ∧ ∀ j u, us[j]? = some u → news[i * t.size + j]? = some u := by
  have at_ : ∀ p, p < xs.length * t.size → ∃ u, get p = some u ∧ u.oneCell' = true := by
    intro p hp
    have hi : p / t.size < xs.length := Nat.div_lt_of_lt_mul (by rw [Nat.mul_comm]; exact hp)
    obtain ⟨us, h1, h2, h3⟩ := h (p / t.size) _ (List.getElem?_eq_getElem hi)
    have hj : p % t.size < us.length := by rw [h1]; exact Nat.mod_lt _ t.size_pos
    have := h3 (p % t.size) _ (List.getElem?_eq_getElem hj)
    rw [Nat.mul_comm, Nat.div_add_mod] at this
    exact ⟨_, this, Ty.rep_one h2 _ (List.getElem_mem hj)⟩
  have val : ∀ p u, ((List.range (xs.length * t.size)).map fun p => (get p).getD undef)[p]? = some u → p < xs.length * t.size ∧ get p = some u := by
    intro p u hu
    have hp : p < xs.length * t.size := by
      have := (List.getElem?_eq_some_iff.1 hu).1
      simpa using this
    rw [List.getElem?_map, List.getElem?_range hp] at hu
    simp only [Option.map_some, Option.some.injEq] at hu
    obtain ⟨v, hv, _⟩ := at_ p hp
    rw [hv] at hu
    simp at hu
    subst hu
    exact ⟨hp, hv⟩
  refine ⟨(List.range (xs.length * t.size)).map fun p => (get p).getD undef, by simp, fun p u hu => (val p u hu).2, fun u hu => ?_, fun i x hx => ?_⟩
  · obtain ⟨p, hp, hpu⟩ := List.getElem_of_mem hu
    have h1 := val p u (by rw [List.getElem?_eq_getElem hp, hpu])
    obtain ⟨v, hv, h2⟩ := at_ p h1.1
    rw [h1.2] at hv
    cases hv
    exact h2
  · obtain ⟨us, h1, h2, h3⟩ := h i x hx
    refine ⟨us, h1, h2, fun j u hj => ?_⟩
    have hi : i < xs.length := (List.getElem?_eq_some_iff.1 hx).1
    have hjl : j < t.size := by rw [← h1]; exact (List.getElem?_eq_some_iff.1 hj).1
    have hp : i * t.size + j < xs.length * t.size := by
      have : (i + 1) * t.size ≤ xs.length * t.size := Nat.mul_le_mul_right _ hi
      rw [Nat.add_mul, Nat.one_mul] at this
      omega
    rw [List.getElem?_map, List.getElem?_range hp]
    simp only [Option.map_some, h3 j u hj, Option.getD_some]

/-- What a slice holds, found in memory. -/
structure Holds (w : World) (St : Nat → Prop) (t : Ty) (v : Value) (xs : List t.D) : Prop where
  it : ∃ a c, v = .slice a xs.length c ∧ xs.length ≤ c ∧ ∃ news : List Value, news.length = xs.length * t.size ∧
    (∀ p u, news[p]? = some u → ∃ b o, a = some ⟨b, o, none⟩ ∧ w.cell? ⟨b, o + p, none⟩ = some u) ∧ (∀ u ∈ news, u.oneCell' = true) ∧
    ∀ i x, xs[i]? = some x → ∃ us, us.length = t.size ∧ t.rep St w x us ∧ ∀ j u, us[j]? = some u → news[i * t.size + j]? = some u

theorem holds_sl {t : Ty} {xs : List t.D} {v : Value} (h : RV St w μ (.sl t xs) v) : Holds w St t v xs := by
  obtain ⟨a, c, rfl, hc, hr⟩ := h
  refine ⟨a, c, rfl, hc.1, ?_⟩
  cases a with
  | none =>
    have : xs = [] := by
      cases xs with
      | nil => rfl
      | cons x xs => obtain ⟨b, o, h, _⟩ := hr 0 x rfl; cases h
    subst this
    exact ⟨[], by simp, fun p u h => by simp at h, fun u h => (by cases h), fun i x h => by simp at h⟩
  | some ad =>
    obtain ⟨news, h1, h2, h3, h4⟩ := flat_cells (St := St) (w := w) (t := t) (xs := xs) (get := fun p => w.cell? ⟨ad.block, ad.off + p, none⟩) (fun i x hx => by
      obtain ⟨b, o, h, hb, us, g1, g2, g3⟩ := hr i x hx
      cases h
      exact ⟨us, g1, g2, fun j u hj => by rw [← Nat.add_assoc]; exact g3 j u hj⟩)
    refine ⟨news, h1, fun p u hp => ?_, h3, h4⟩
    have hlt := (List.getElem?_eq_some_iff.1 hp).1
    have hpos : 0 < xs.length := by
      rcases Nat.eq_zero_or_pos xs.length with e | e
      · rw [h1, e] at hlt; simp at hlt
      · exact e
    obtain ⟨b, o, h, _⟩ := hr 0 _ (List.getElem?_eq_getElem hpos)
    cases h
    exact ⟨b, o, rfl, h2 p u hp⟩
theorem holds_arr {m : Wh} {t : Ty} {xs : List t.D} (h : ArrR B St w m t xs) : Holds w St t (.slice m.a m.n m.c) xs := by
  refine ⟨m.a, m.c, by rw [h.n], by have := h.n; have := h.c; omega, ?_⟩
  cases ha : m.a with
  | none =>
    have := h.nil ha
    have h2 := h.n
    have := h.c
    have : xs = [] := List.length_eq_zero_iff.1 (by omega)
    subst this
    exact ⟨[], by simp, fun p u h => by simp at h, fun u h => (by cases h), fun i x h => by simp at h⟩
  | some ad =>
    obtain ⟨g1, g2, cs, e, g3, g4, g5⟩ := h.row ad ha
    obtain ⟨b, o, sp⟩ := ad
    simp only at g1
    subst g1
    obtain ⟨news, h1, h2, h3, h4⟩ := flat_cells (St := St) (w := w) (t := t) (xs := xs) (get := fun p => w.cell? ⟨b, o + p, none⟩) (fun i x hx => by
      obtain ⟨us, f1, f2, f3⟩ := g5 i x hx
      refine ⟨us, f1, f2, fun j u hj => ?_⟩
      show w.cell? ⟨b, o + (i * t.size + j), none⟩ = some u
      rw [cell_at g3, ← Nat.add_assoc]
      exact f3 j u hj)
    exact ⟨news, h1, fun p u hp => ⟨b, o, rfl, h2 p u hp⟩, h3, h4⟩
theorem holds_pre {t : Ty} {a : Option Addr} {n k c : Nat} {xs : List t.D} (h : Holds w St t (.slice a n c) xs) (hk : k ≤ n) (hn : n = xs.length) : Holds w St t (.slice a k c) (xs.take k) := by
  obtain ⟨a', c', e, h1, news, h2, h3, h4, h5⟩ := h.it
  simp only [Value.slice.injEq] at e
  obtain ⟨rfl, e2, rfl⟩ := e
  have hl : (xs.take k).length = k := by rw [List.length_take]; omega
  have hmul : k * t.size ≤ xs.length * t.size := Nat.mul_le_mul_right _ (by omega)
  refine ⟨_, _, by rw [hl], by rw [hl]; omega, news.take (k * t.size), ?_, fun p u hp => ?_, fun u hu => h4 u (List.mem_of_mem_take hu), fun i x hx => ?_⟩
  · rw [List.length_take, hl, h2]; omega
  · rw [List.getElem?_take] at hp
    split at hp
    · exact h3 p u hp
    · cases hp
  · rw [List.getElem?_take] at hx
    split at hx
    · rename_i hik
      obtain ⟨us, g1, g2, g3⟩ := h5 i x hx
      refine ⟨us, g1, g2, fun j u hj => ?_⟩
      have hjl : j < t.size := by rw [← g1]; exact (List.getElem?_eq_some_iff.1 hj).1
      have : i * t.size + j < k * t.size := by
        have := Nat.mul_le_mul_right t.size (show i + 1 ≤ k from hik)
        rw [Nat.add_mul, Nat.one_mul] at this
        omega
      rw [List.getElem?_take, if_pos this]
      exact g3 j u hj
    · cases hx
theorem holds_nil (t : Ty) : Holds w St t (.slice none 0 0) ([] : List t.D) :=
  ⟨none, 0, rfl, Nat.le_refl _, [], by simp, fun p u h => by simp at h, fun u h => (by cases h), fun i x h => by simp at h⟩

theorem items_ok (hs : HS B S0 μ H w) {t : Ty} {x : AV} {v : Value} {xs : List t.D} (hx : RV (Stb B S0 μ H w) w μ x v) (hr : (itemsR t x).run H = some xs) : Holds w (Stb B S0 μ H w) t v xs := by
  unfold itemsR at hr
  split at hr
  · cases hr
    cases hx
    exact holds_nil t
  · split at hr
    · rename_i e _
      subst e
      cases hr
      obtain ⟨a, c, h1, h2, h3⟩ := hx
      exact holds_sl (μ := μ) ⟨some a, c, h1, h2, h3⟩
    · cases hr
  · split at hr
    · rename_i e _
      subst e
      cases hr
      exact holds_sl hx
    · cases hr
  · rename_i h
    change (match H h with
      | some (.arr u ys) => (match u.eqv t with | some ⟨e⟩ => e ▸ (Rd.ok ys : Rd (List u.D)) | none => Rd.bad)
      | _ => Rd.bad).run H = some xs at hr
    cases ho : H h with
    | none => rw [ho] at hr; cases hr
    | some ob =>
      rw [ho] at hr
      cases ob with
      | arr u ys =>
        simp only at hr
        split at hr
        · rename_i e _
          subst e
          cases hr
          obtain ⟨m, hm, rfl⟩ := hx
          obtain ⟨m', h1, h2⟩ := hs.obj h _ ho
          rw [hm] at h1
          cases h1
          exact holds_arr h2
        · cases hr
      | box _ => cases hr
      | mp _ _ _ => cases hr
      | tab _ _ _ _ => cases hr
      | tbx _ _ => cases hr
      | trow _ _ => cases hr
  · rename_i h n
    change (match H h with
      | some (.arr u ys) => (match u.eqv t with | some ⟨e⟩ => e ▸ (Rd.ok (ys.take n) : Rd (List u.D)) | none => Rd.bad)
      | _ => Rd.bad).run H = some xs at hr
    cases ho : H h with
    | none => rw [ho] at hr; cases hr
    | some ob =>
      rw [ho] at hr
      cases ob with
      | arr u ys =>
        simp only at hr
        split at hr
        · rename_i e _
          subst e
          cases hr
          obtain ⟨m, hm, hn, rfl⟩ := hx
          obtain ⟨m', h1, h2⟩ := hs.obj h _ ho
          rw [hm] at h1
          cases h1
          exact holds_pre (holds_arr h2) hn h2.n
        · cases hr
      | box _ => cases hr
      | mp _ _ _ => cases hr
      | tab _ _ _ _ => cases hr
      | tbx _ _ => cases hr
      | trow _ _ => cases hr
  · cases hr

/-- What is appended to. -/
structure Source (B : Zn) (S0 : Nat → Prop) (μ : Nat → Option Wh) (H : Nat → Option Ob) (w : World) (t : Ty) (v : Value) (xs : List t.D) (u : List (Nat × Option Ob)) : Prop where
  it : (v = .slice none 0 0 ∧ xs = [] ∧ u = []) ∨ ∃ h m, u = [(h, none)] ∧ H h = some (.arr t xs) ∧ μ h = some m ∧ v = .slice m.a m.n m.c ∧ ArrR B (Stb B S0 μ H w) w m t xs
theorem source_ok (hs : HS B S0 μ H w) {t : Ty} {x : AV} {v : Value} {xs : List t.D} {u : List (Nat × Option Ob)} (hx : RV (Stb B S0 μ H w) w μ x v) (hr : (sourceR t x).run H = some (xs, u)) : Source B S0 μ H w t v xs u := by
  unfold sourceR at hr
  split at hr
  · cases hr
    cases hx
    exact ⟨Or.inl ⟨rfl, rfl, rfl⟩⟩
  · rename_i h
    change (match H h with
      | some (.arr u ys) => (match u.eqv t with | some ⟨e⟩ => e ▸ (Rd.ok (ys, [(h, (none : Option Ob))]) : Rd (List u.D × List (Nat × Option Ob))) | none => Rd.bad)
      | _ => Rd.bad).run H = some (xs, u) at hr
    cases ho : H h with
    | none => rw [ho] at hr; cases hr
    | some ob =>
      rw [ho] at hr
      cases ob with
      | arr u ys =>
        simp only at hr
        split at hr
        · rename_i e _
          subst e
          cases hr
          obtain ⟨m, hm, rfl⟩ := hx
          obtain ⟨m', h1, h2⟩ := hs.obj h _ ho
          rw [hm] at h1
          cases h1
          exact ⟨Or.inr ⟨h, m, rfl, ho, hm, rfl, h2⟩⟩
        · cases hr
      | box _ => cases hr
      | mp _ _ _ => cases hr
      | tab _ _ _ _ => cases hr
      | tbx _ _ => cases hr
      | trow _ _ => cases hr
  · cases hr

/-- An own row handed on under a new name, and written. -/
theorem HS.move (hs : HS B S0 μ H w) {h base b : Nat} (hl : H h ≠ none) (hb : blk μ h = some b) (hm : μ base = none) (m : Wh) (o : Ob) (ha : m.a.map (·.block) = some b) (hsz : w'.heap.size = w.heap.size) (hch : ∀ k, k ≠ b → w'.heap[k]? = w.heap[k]?)
    (hob : ∀ (k : Keeps (Stb B S0 μ H w) (Stb B S0 (more μ base m) (upd (upd H h none) base (some o)) w') w w'), ObR B (Stb B S0 (more μ base m) (upd (upd H h none) base (some o)) w') (more μ base m) w' base o) :
    HS B S0 (more μ base m) (upd (upd H h none) base (some o)) w' ∧ Keeps (Stb B S0 μ H w) (Stb B S0 (more μ base m) (upd (upd H h none) base (some o)) w') w w' := by
  have hne : base ≠ h := by
    rintro rfl
    exact hl (hs.live hm)
  have old : ∀ q, q ≠ base → upd (upd H h none) base (some o) q ≠ none → H q ≠ none ∧ q ≠ h := by
    intro q e hq
    rw [upd_other _ e] at hq
    by_cases e' : q = h
    · subst e'; rw [upd_same] at hq; exact absurd rfl hq
    · rw [upd_other _ e'] at hq; exact ⟨hq, e'⟩
  have hc : ∀ k, k < w.heap.size → ¬ BlkOf μ H k → w'.heap[k]? = w.heap[k]? := fun k _ hk => hch k fun e => hk ⟨h, hl, e ▸ hb⟩
  have hnew : ∀ k, BlkOf (more μ base m) (upd (upd H h none) base (some o)) k → k < w.heap.size → BlkOf μ H k := by
    rintro k ⟨q, hq, hk⟩ _
    by_cases e : q = base
    · subst e
      rw [blk_more_same, ha] at hk
      cases hk
      exact ⟨h, hl, hb⟩
    · rw [blk_more_other m e] at hk
      exact ⟨q, (old q e hq).1, hk⟩
  have k := keeps_of (B := B) (S0 := S0) (Nat.le_of_eq hsz.symm) hc hnew
  refine ⟨hs.step (more_ext m hm) (Nat.le_of_eq hsz.symm) hc hnew (fun q o' ho => ?_) (fun q q' j h1 h2 b1 b2 => ?_), k⟩
  · by_cases e : q = base
    · subst e
      rw [upd_same] at ho
      cases ho
      exact Or.inr (hob k)
    · have := old q e (by rw [ho]; simp)
      rw [upd_other _ e, upd_other _ this.2] at ho
      exact Or.inl ⟨ho, fun j hj => hch j fun ej => this.2 (hs.sep q h j this.1 hl hj (ej ▸ hb))⟩
  · by_cases e : q = base <;> by_cases e' : q' = base
    · rw [e, e']
    · subst e
      rw [blk_more_same, ha] at b1
      cases b1
      rw [blk_more_other m e'] at b2
      have := old q' e' h2
      exact absurd (hs.sep q' h b this.1 hl b2 hb) this.2
    · subst e'
      rw [blk_more_same, ha] at b2
      cases b2
      rw [blk_more_other m e] at b1
      have := old q e h1
      exact absurd (hs.sep q h b this.1 hl b1 hb) this.2
    · rw [blk_more_other m e] at b1
      rw [blk_more_other m e'] at b2
      exact hs.sep q q' j (old q e h1).1 (old q' e' h2).1 b1 b2

theorem HS.drew (hs : HS B S0 μ H w) : HS B S0 μ H w.drew ∧ Keeps (Stb B S0 μ H w) (Stb B S0 μ H w.drew) w w.drew := by
  have k : Keeps (Stb B S0 μ H w) (Stb B S0 μ H w.drew) w w.drew := ⟨fun _ h => h, fun _ _ => rfl⟩
  exact ⟨⟨hs.s0, hs.bsz, fun h o ho => (hs.obj h o ho).mono k (fun _ _ h => h) (fun _ _ => rfl), hs.sep⟩, k⟩

/-- A nil slice under a new name. -/
theorem nilArr (hs : HS B S0 μ H w) {base : Nat} (hm : μ base = none) (t : Ty) : HS B S0 (more μ base ⟨none, t.size, 0, 0⟩) (upd H base (some (.arr t []))) w ∧ Keeps (Stb B S0 μ H w) (Stb B S0 (more μ base ⟨none, t.size, 0, 0⟩) (upd H base (some (.arr t []))) w) w w := by
  have hbk : blk (more μ base ⟨none, t.size, 0, 0⟩) base = none := by rw [blk_more_same]; rfl
  have old : ∀ q b, upd H base (some (.arr t [])) q ≠ none → blk (more μ base ⟨none, t.size, 0, 0⟩) q = some b → H q ≠ none ∧ blk μ q = some b ∧ q ≠ base := by
    intro q b hq hb
    have e : q ≠ base := by rintro rfl; rw [hbk] at hb; cases hb
    rw [upd_other _ e] at hq
    rw [blk_more_other _ e] at hb
    exact ⟨hq, hb, e⟩
  have hnew : ∀ k, BlkOf (more μ base ⟨none, t.size, 0, 0⟩) (upd H base (some (.arr t []))) k → k < w.heap.size → BlkOf μ H k := fun k ⟨q, hq, hk⟩ _ => ⟨q, (old q k hq hk).1, (old q k hq hk).2.1⟩
  have k := keeps_of (B := B) (S0 := S0) (w := w) (w' := w) (Nat.le_refl _) (fun _ _ _ => rfl) hnew
  refine ⟨hs.step (more_ext _ hm) (Nat.le_refl _) (fun _ _ _ => rfl) hnew (fun q o ho => ?_) (fun q q' b h1 h2 b1 b2 => hs.sep q q' b (old q b h1 b1).1 (old q' b h2 b2).1 (old q b h1 b1).2.1 (old q' b h2 b2).2.1), k⟩
  by_cases e : q = base
  · subst e
    rw [upd_same] at ho
    cases ho
    exact Or.inr ⟨_, more_same _ _, rfl, rfl, Nat.le_refl _, fun _ => rfl, fun a ha => (by cases ha)⟩
  · rw [upd_other _ e] at ho
    exact Or.inl ⟨ho, fun _ _ => rfl⟩
end
end Go.Proofs.YtaafjaibaaiigaaGreatDoor.Eng
/- Append, copy, len and slicing against the model. Written for this seat's proofs. -/
set_option linter.unusedVariables false
set_option linter.unusedSimpArgs false
namespace Go.Proofs.YtaafjaibaaiigaaGreatDoor.Eng
open Go Go.RowKit

section
variable {P : Program} {E : Env} {B : Zn} {S0 : Nat → Prop} {μ : Nat → Option Wh} {H H' : Nat → Option Ob} {w w' : World} {St : Nat → Prop}

theorem run_firstCells_of {sz n len cap : Nat} {a : Option Addr} {news : List Value} (hl : news.length = n * sz) (h : ∀ p u, news[p]? = some u → ∃ b o, a = some ⟨b, o, none⟩ ∧ w.cell? ⟨b, o + p, none⟩ = some u) :
    (Builtin.firstCells sz n (.slice a len cap)).run P w = .ok news.toArray w := by
  cases a with
  | none =>
    have : news = [] := by
      cases news with
      | nil => rfl
      | cons u us => obtain ⟨b, o, h, _⟩ := h 0 u rfl; cases h
    subst this
    exact run_firstCells_none _ _ _ _ _
  | some ad =>
    refine run_firstCells_some w sz n ad len cap news hl (fun j v hj => ?_)
    obtain ⟨b, o, h1, h2⟩ := h j v hj
    cases h1
    rw [add_plain]
    exact h2

theorem run_append_in {t u e e' : TypeId} {i : TypeInfo} {b o n c k d : Nat} {a : Option Addr} {new : List Value} {ty : TypeId} (ht : P.underlying t = some (.slice e)) (hu : P.underlying u = some (.slice e')) (hi : P.info? e = some i)
    (hle : n + k ≤ c) (hf : (Builtin.firstCells i.size k (.slice a k d)).run P w = .ok new.toArray w) (hst : (storeCells ⟨b, o + n * i.size, none⟩ new).run P w = .ok () w') :
    (Builtin.append_ #[t, u] ty #[.slice (some ⟨b, o, none⟩) n c, .slice a k d]).run P w = .ok (.slice (some ⟨b, o, none⟩) (n + k) c) w' := by
  simp [Builtin.append_, run_underlying ht, run_underlying hu, sizeOf, typeInfo, hi, Builtin.lenOf, hle, hf, add_plain, hst]
theorem run_append_none {t u e e' : TypeId} {i : TypeInfo} {d : Nat} {a : Option Addr} {ty : TypeId} (ht : P.underlying t = some (.slice e)) (hu : P.underlying u = some (.slice e')) (hi : P.info? e = some i)
    (hf : (Builtin.firstCells i.size 0 (.slice a 0 d)).run P w = .ok #[] w) :
    (Builtin.append_ #[t, u] ty #[.slice none 0 0, .slice a 0 d]).run P w = .ok (.slice none 0 0) w := by
  simp [Builtin.append_, run_underlying ht, run_underlying hu, sizeOf, typeInfo, hi, Builtin.lenOf, hf]
theorem run_append_out {t u e e' : TypeId} {i : TypeInfo} {z : Value} {n c k d : Nat} {s a : Option Addr} {new old : List Value} {ty : TypeId} (ht : P.underlying t = some (.slice e)) (hu : P.underlying u = some (.slice e')) (hi : P.info? e = some i)
    (hz : i.zero = some z) (hle : ¬ n + k ≤ c) (hf : (Builtin.firstCells i.size k (.slice a k d)).run P w.drew = .ok new.toArray w.drew) (hfo : (Builtin.firstCells i.size n (.slice s n c)).run P w.drew = .ok old.toArray w.drew)
    (h63 : ((n + k : Nat) : Int) ≤ 9223372036854775807) (hfit : Builtin.nextslicecap (n + k) c * i.bytes ≤ 281474976710656) :
    (Builtin.append_ #[t, u] ty #[.slice s n c, .slice a k d]).run P w = .ok (.slice (some ⟨w.heap.size, 0, none⟩) (n + k) (grownCap w (n + k) c e))
        (w.drew.alloc (.cells (old.toArray ++ new.toArray ++ Builtin.zeroCells z.cells (grownCap w (n + k) c e - (n + k))) e)) := by
  have h63' : ¬ (9223372036854775807 < ((n : Int) + (k : Int))) := by omega
  have h48' : ¬ (281474976710656 < Builtin.nextslicecap (n + k) c * i.bytes) := by omega
  simp [Builtin.append_, run_underlying ht, run_underlying hu, sizeOf, typeInfo, zeroValue, hi, hz, Builtin.lenOf, hle, h63', h48', Question.forced, hf, hfo, newRow, grownCap]
  congr 2
  apply Array.ext'
  simp [List.append_assoc]

theorem grownCap_ge (w : World) (n c : Nat) (e : TypeId) : n ≤ grownCap w n c e := by
  unfold grownCap
  simp only [Question.cut]
  omega

theorem row_app {t : Ty} {xs ys : List t.D} {n1 n2 : List Value} (h1 : n1.length = xs.length * t.size)
    (f1 : ∀ i x, xs[i]? = some x → ∃ us, us.length = t.size ∧ t.rep St w x us ∧ ∀ j u, us[j]? = some u → n1[i * t.size + j]? = some u)
    (f2 : ∀ i x, ys[i]? = some x → ∃ us, us.length = t.size ∧ t.rep St w x us ∧ ∀ j u, us[j]? = some u → n2[i * t.size + j]? = some u) :
    ∀ i x, (xs ++ ys)[i]? = some x → ∃ us, us.length = t.size ∧ t.rep St w x us ∧ ∀ j u, us[j]? = some u → (n1 ++ n2)[i * t.size + j]? = some u := by
  intro i x hx
  by_cases hi : i < xs.length
  · rw [List.getElem?_append_left hi] at hx
    obtain ⟨us, g1, g2, g3⟩ := f1 i x hx
    refine ⟨us, g1, g2, fun j u hj => ?_⟩
    have := g3 j u hj
    rw [List.getElem?_append_left (List.getElem?_eq_some_iff.1 this).1]
    exact this
  · rw [List.getElem?_append_right (by omega)] at hx
    obtain ⟨us, g1, g2, g3⟩ := f2 _ x hx
    refine ⟨us, g1, g2, fun j u hj => ?_⟩
    have e : i * t.size + j = n1.length + ((i - xs.length) * t.size + j) := by
      rw [h1, ← Nat.add_assoc, ← Nat.add_mul]
      congr 2
      omega
    rw [e, List.getElem?_append_right (by omega), Nat.add_sub_cancel_left]
    exact g3 j u hj

theorem append_ok (hT : TOk P E) (hs : HS B S0 μ H w) {base t u ty : Nat} (hm : μ base = none) {s x : AV} {vs vx : Value} {r : Res} (hvs : RV (Stb B S0 μ H w) w μ s vs) (hvx : RV (Stb B S0 μ H w) w μ x vx)
    (hku : (E.ti u).kind = 1) (hr : (appendR E t base s x).run H = some r) (hp : ∀ p ∈ r.ps, p) :
    ∃ v w' μ', (Builtin.append_ #[t, u] ty #[vs, vx]).run P w = .ok v w' ∧ Done B S0 μ H w base (upds H r.ups) r.val v μ' w' := by
  unfold appendR at hr
  split at hr
  · rename_i hk
    split at hr
    · rename_i te hte
      split at hr
      · rename_i hchk
        obtain ⟨hsz, hzl0⟩ := andB_true hchk
        obtain ⟨hzl, hzl2⟩ := andB_true hzl0
        obtain ⟨hke, hsize⟩ := eqSize_of hsz
        obtain ⟨src, h1, hr⟩ := bind_ok hr
        obtain ⟨xs, kills⟩ := src
        obtain ⟨ys, h2, hr⟩ := bind_ok hr
        cases hr
        have hb : (xs.length + ys.length) * (E.ti (E.ti t).elem).bytes ≤ 70368744177664 := hp _ List.mem_cons_self
        have hn : xs.length + ys.length ≤ 70368744177664 := hp _ (List.mem_cons_of_mem _ List.mem_cons_self)
        have hut := (hT t (by rw [hk]; decide)).k1 hk
        have huu := (hT u (by rw [hku]; decide)).k1 hku
        obtain ⟨f, zv, g1, g2, g3, g4, g5⟩ := hT.zero hke (zero_ne hzl)
        have hfs : f.size = te.size := by rw [g2, hsize]
        obtain ⟨a, c, rfl, hac, news, n1, n2, n3, n4⟩ := (items_ok hs hvx h2).it
        have hnews : (Builtin.firstCells f.size ys.length (.slice a ys.length c)).run P w = .ok news.toArray w := run_firstCells_of (by rw [hfs]; exact n1) n2
        have hnewsD : (Builtin.firstCells f.size ys.length (.slice a ys.length c)).run P w.drew = .ok news.toArray w.drew := run_firstCells_of (by rw [hfs]; exact n1) n2
        have fits : ∀ c', c' < xs.length + ys.length → Builtin.nextslicecap (xs.length + ys.length) c' * f.bytes ≤ 281474976710656 := fun c' hc => growslice_fits hc (by rw [g3]; omega)
        -- a new row
        have grow : ∀ (s0 : Option Addr) (c' : Nat) (old : List Value), vs = .slice s0 xs.length c' → ¬ xs.length + ys.length ≤ c' → old.length = xs.length * te.size →
            (∀ p u, old[p]? = some u → ∃ b o, s0 = some ⟨b, o, none⟩ ∧ w.cell? ⟨b, o + p, none⟩ = some u) →
            (∀ i x, xs[i]? = some x → ∃ us, us.length = te.size ∧ te.rep (Stb B S0 μ H w) w x us ∧ ∀ j u, us[j]? = some u → old[i * te.size + j]? = some u) →
            (∀ p ∈ kills, p.2 = none) → (∀ p ∈ kills, p.1 ≠ base) →
            ∃ v w' μ', (Builtin.append_ #[t, u] ty #[vs, .slice a ys.length c]).run P w = .ok v w' ∧ Done B S0 μ H w base (upds H (lapp kills [(base, some (.arr te (xs ++ ys)))])) (.own base) v μ' w' := by
          rintro s0 c' old rfl hgt o1 o2 o3 k1 k2
          have hold : (Builtin.firstCells f.size xs.length (.slice s0 xs.length c')).run P w.drew = .ok old.toArray w.drew := run_firstCells_of (by rw [hfs]; exact o1) o2
          have hrun := run_append_out (ty := ty) hut huu g1 g4 hgt hnewsD hold (by omega) (fits c' (by omega))
          obtain ⟨hs1, kp1⟩ := hs.gives_ok k1
          obtain ⟨hs2, kp2⟩ := hs1.drew
          have hrep := fun (y : te.D) (us : List Value) => te.rep_mono (kp1.trans kp2) y us
          obtain ⟨μ', hd⟩ := newArr hs2 hm (t := te) (xs := xs ++ ys) (cells := old.toArray ++ news.toArray ++ Builtin.zeroCells zv.cells (grownCap w (xs.length + ys.length) c' (E.ti t).elem - (xs.length + ys.length))) (c := grownCap w (xs.length + ys.length) c' (E.ti t).elem) (E.ti t).elem
            (by rw [List.length_append]; exact grownCap_ge _ _ _ _) (by
              have hz : zv.cells.size = te.size := by
                have := Nat.eq_of_beq_eq_true hzl2
                rw [llen_eq, g5] at this
                simpa using this
              have hge := grownCap_ge w (xs.length + ys.length) c' (E.ti t).elem
              simp only [Array.size_append, List.size_toArray, o1, n1, Builtin.zeroCells, Array.size_map, Array.size_range, hz]
              rw [← Nat.add_mul, ← Nat.add_mul]
              exact Nat.mul_le_mul_right _ (by omega)) (fun i y hy => by
              obtain ⟨us, q1, q2, q3⟩ := row_app o1 o3 n4 i y hy
              refine ⟨us, q1, hrep _ _ q2, fun j u hj => ?_⟩
              have := q3 j u hj
              have hlt := (List.getElem?_eq_some_iff.1 this).1
              rw [Array.getElem?_append_left (by simpa using hlt)]
              simpa using this)
          refine ⟨_, _, μ', hrun, ?_⟩
          have hups : upds H (lapp kills [(base, some (Ob.arr te (xs ++ ys)))]) = upd (upds H kills) base (some (.arr te (xs ++ ys))) := by
            rw [lapp_eq, upds_append]; rfl
          rw [hups]
          rw [List.length_append] at hd
          exact ⟨hd.ext, hd.new, hd.hs, (kp1.trans kp2).trans hd.keep, hd.val, (Bel.refl _ _).drew.trans hd.bel⟩
        rcases (source_ok hs hvs h1).it with ⟨rfl, rfl, rfl⟩ | ⟨h, m, rfl, ho, hmh, rfl, harr⟩
        · by_cases hy : ys.length = 0
          · have : ys = [] := List.length_eq_zero_iff.1 hy
            subst this
            obtain ⟨hs', k⟩ := nilArr hs hm te
            refine ⟨_, _, more μ base ⟨none, te.size, 0, 0⟩, run_append_none hut huu g1 (by
              have : news = [] := List.length_eq_zero_iff.1 (by simpa using n1)
              subst this
              exact hnews), more_ext _ hm, fun q hq => more_other _ (pow8 hq), hs', k, ⟨_, more_same _ _, rfl⟩, Bel.refl _ _⟩
          · exact grow none 0 [] rfl (by intro hle; simp only [List.length_nil, Nat.zero_add, Nat.le_zero] at hle; exact hy hle) (by simp) (fun p u h => by simp at h) (fun i x h => by simp at h) (fun p h => by cases h) (fun p h => by cases h)
        · have hnb : base ≠ h := by rintro rfl; rw [hm] at hmh; cases hmh
          have hmn := harr.n
          by_cases hfit : xs.length + ys.length ≤ m.c
          · cases hma : m.a with
            | none =>
              have hc0 := harr.nil hma
              have hx0 : xs = [] := List.length_eq_zero_iff.1 (by omega)
              have hy0 : ys = [] := List.length_eq_zero_iff.1 (by omega)
              subst hx0 hy0
              obtain ⟨hs1, k1⟩ := hs.give h
              obtain ⟨hs', k⟩ := nilArr hs1 hm te
              simp only [List.length_nil] at hmn
              rw [hmn, hc0]
              refine ⟨_, _, more μ base ⟨none, te.size, 0, 0⟩, run_append_none hut huu g1 (by
                have : news = [] := List.length_eq_zero_iff.1 (by simpa using n1)
                subst this
                exact hnews), more_ext _ hm, fun q hq => more_other _ (pow8 hq), hs', k1.trans k, ⟨_, more_same _ _, rfl⟩, Bel.refl _ _⟩
            | some ad =>
              obtain ⟨r1, r2, cs, e, r3, r4, r5⟩ := harr.row ad hma
              obtain ⟨b, o, sp⟩ := ad
              simp only at r1
              subst r1
              simp only at r2 r3 r4 r5
              have hroom : o + xs.length * te.size + news.length ≤ cs.size := by
                rw [n1, Nat.add_assoc, ← Nat.add_mul]
                have : (xs.length + ys.length) * te.size ≤ m.c * te.size := Nat.mul_le_mul_right _ hfit
                omega
              have hst := run_storeCells_at (P := P) b (o + xs.length * te.size) e news 0 cs w r3 (by simpa using hroom) n3
              simp only [Nat.add_zero] at hst
              have hrun := run_append_in (P := P) (w := w) (ty := ty) (b := b) (o := o) (n := xs.length) (c := m.c) hut huu g1 hfit hnews (by rw [hfs]; exact hst)
              have hbk : blk μ h = some b := by simp [blk, hmh, hma]
              have hfit2 : o + xs.length * te.size + news.length ≤ cs.toList.length := by simpa using hroom
              obtain ⟨hs', k⟩ := hs.move (w' := w.setRow b (spl cs.toList (o + xs.length * te.size) news).toArray) (by rw [ho]; simp) hbk hm ⟨some ⟨b, o, none⟩, te.size, xs.length + ys.length, m.c⟩ (.arr te (xs ++ ys)) rfl (by simp) (fun q hq => setRow_other w b q _ hq) (fun k => by
                refine ⟨_, more_same _ _, rfl, by rw [List.length_append], hfit, fun h => (by cases h), fun ad had => ?_⟩
                cases had
                refine ⟨rfl, r2, _, e, setRow_heap w b _ _ e (0, 0) r3, by rw [List.size_toArray, spl_len hfit2]; simpa using r4, fun i y hy => ?_⟩
                simp only [List.getElem?_toArray]
                by_cases hi : i < xs.length
                · rw [List.getElem?_append_left hi] at hy
                  obtain ⟨us, q1, q2, q3⟩ := r5 i y hy
                  refine ⟨us, q1, te.rep_mono k _ _ q2, fun j v hj => ?_⟩
                  have hjl : j < te.size := by rw [← q1]; exact (List.getElem?_eq_some_iff.1 hj).1
                  have : (i + 1) * te.size ≤ xs.length * te.size := Nat.mul_le_mul_right _ hi
                  rw [Nat.add_mul, Nat.one_mul] at this
                  rw [spl_get hfit2, if_pos (by omega)]
                  have := q3 j v hj
                  simpa using this
                · rw [List.getElem?_append_right (by omega)] at hy
                  obtain ⟨us, q1, q2, q3⟩ := n4 _ y hy
                  refine ⟨us, q1, te.rep_mono k _ _ q2, fun j v hj => ?_⟩
                  have h3 := q3 j v hj
                  have hlt := (List.getElem?_eq_some_iff.1 h3).1
                  have e2 : o + i * te.size + j = o + xs.length * te.size + ((i - xs.length) * te.size + j) := by
                    have : i * te.size = xs.length * te.size + (i - xs.length) * te.size := by rw [← Nat.add_mul]; congr 1; omega
                    omega
                  rw [spl_get hfit2, e2, if_neg (by omega), if_pos (by omega), Nat.add_sub_cancel_left]
                  exact h3)
              rw [hmn]
              exact ⟨_, _, _, hrun, more_ext _ hm, fun q hq => more_other _ (pow8 hq), hs', k, ⟨_, more_same _ _, rfl⟩, Bel.setRow (Bel.refl _ _) r2 _⟩
          · obtain ⟨a', c', hv', hc', old, o1, o2, _, o4⟩ := (holds_arr harr).it
            injection hv' with e1 e2 e3
            subst e1 e3
            exact grow m.a m.c old (by rw [hmn]) hfit o1 o2 o4 (fun p h => by simp at h; rw [h]) (fun p h => by simp at h; rw [h]; exact fun e => hnb e.symm)
      · cases hr
    · cases hr
  · cases hr
end
end Go.Proofs.YtaafjaibaaiigaaGreatDoor.Eng
