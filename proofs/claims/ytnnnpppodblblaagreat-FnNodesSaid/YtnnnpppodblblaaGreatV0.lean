/- An evaluator over the code of any program, and its soundness: what the evaluator answers, the call answers. Conditions are in each theorem. -/
import Derived.Calls
import Derived.Orders
import Derived.Below
import Derived.Laws.NewBlocks
import Derived.Wp
import Derived.Laws.Sem
import Derived.WalkKit
import Derived.Laws.Cells
import Derived.Laws.Slices
import Derived.Laws.Tables
import Derived.Laws.Append
import Derived.Laws.StructEq
import Derived.Laws.BytesArg
/-
Plain data of Go's kinds (Ty.den), how they lie in memory (DRep, SRep), and that this hangs on the blocks alone that are told.
-/
namespace Go.Proofs.YtnnnpppodblblaaGreat.Ev
open Go

inductive Ty where
  | unit
  | int (k : IntKind)
  | bool
  | str
  | pair (a b : Ty)
  | sl (e : Ty)
  deriving DecidableEq

@[reducible] def Ty.den : Ty → Type
  | .unit => Unit
  | .int _ => Int
  | .bool => Bool
  | .str => ByteArray
  | .pair a b => a.den × b.den
  | .sl e => List e.den

def Ty.size : Ty → Nat
  | .unit => 0
  | .int _ | .bool | .str | .sl _ => 1
  | .pair a b => a.size + b.size

def Ty.zero : (t : Ty) → t.den
  | .unit => ()
  | .int _ => (0 : Int)
  | .bool => false
  | .str => (⟨#[]⟩ : ByteArray)
  | .pair a b => (a.zero, b.zero)
  | .sl _ => []

/-- A struct's type, of its cells' types. -/
def Ty.of : List Ty → Ty
  | [] => .unit
  | a :: r => .pair a (Ty.of r)

@[reducible] def DL (l : List Ty) : Type := (Ty.of l).den

inductive Sc where
  | int (k : IntKind) (n : Int)
  | bool (b : Bool)
  | str (s : ByteArray)

def Sc.val : Sc → Value
  | .int k n => .int k n
  | .bool b => .bool b
  | .str s => .string s

/-- A cell's content as plain data. -/
inductive LD where
  | sc (s : Sc)
  | sl (e : Ty) (xs : List e.den)

def flat : (t : Ty) → t.den → List LD
  | .unit, _ => []
  | .int k, n => [.sc (.int k n)]
  | .bool, b => [.sc (.bool b)]
  | .str, s => [.sc (.str s)]
  | .pair a b, x => flat a x.1 ++ flat b x.2
  | .sl e, xs => [.sl e xs]

def unflat : (t : Ty) → List LD → Option (t.den × List LD)
  | .unit, l => some ((), l)
  | .int k, .sc (.int k' n) :: l => if k = k' then some (n, l) else none
  | .bool, .sc (.bool b) :: l => some (b, l)
  | .str, .sc (.str s) :: l => some (s, l)
  | .pair a b, l => (unflat a l).bind fun p => (unflat b p.2).bind fun q => some ((p.1, q.1), q.2)
  | .sl e, .sl e' xs :: l => if h : e' = e then some (h ▸ xs, l) else none
  | _, _ => none

theorem flat_unflat : ∀ (t : Ty) (l r : List LD) (x : t.den), unflat t l = some (x, r) → l = flat t x ++ r := by
  intro t
  induction t with
  | unit => intro l r x h; simp [unflat] at h; simp [flat, h]
  | int k =>
    intro l r x h
    match l, h with
    | .sc (.int k' n) :: l, h =>
      simp only [unflat] at h
      split at h
      · rename_i hk; simp at h; obtain ⟨rfl, rfl⟩ := h; subst hk; rfl
      · simp at h
    | [], h => simp [unflat] at h
    | .sc (.bool _) :: _, h => simp [unflat] at h
    | .sc (.str _) :: _, h => simp [unflat] at h
    | .sl _ _ :: _, h => simp [unflat] at h
  | bool =>
    intro l r x h
    match l, h with
    | .sc (.bool b) :: l, h => simp [unflat] at h; obtain ⟨rfl, rfl⟩ := h; rfl
    | [], h => simp [unflat] at h
    | .sc (.int _ _) :: _, h => simp [unflat] at h
    | .sc (.str _) :: _, h => simp [unflat] at h
    | .sl _ _ :: _, h => simp [unflat] at h
  | str =>
    intro l r x h
    match l, h with
    | .sc (.str b) :: l, h => simp [unflat] at h; obtain ⟨rfl, rfl⟩ := h; rfl
    | [], h => simp [unflat] at h
    | .sc (.int _ _) :: _, h => simp [unflat] at h
    | .sc (.bool _) :: _, h => simp [unflat] at h
    | .sl _ _ :: _, h => simp [unflat] at h
  | pair a b iha ihb =>
    intro l r x h
    simp only [unflat, Option.bind_eq_some_iff] at h
    obtain ⟨p, hp, q, hq, h⟩ := h
    simp at h
    obtain ⟨rfl, rfl⟩ := h
    rw [iha l p.2 p.1 hp, ihb p.2 q.2 q.1 hq]
    simp [flat]
  | sl e _ =>
    intro l r x h
    match l, h with
    | .sl e' xs :: l, h =>
      simp only [unflat] at h
      split at h
      · rename_i he; subst he; simp at h; obtain ⟨rfl, rfl⟩ := h; rfl
      · simp at h
    | [], h => simp [unflat] at h
    | .sc (.int _ _) :: _, h => simp [unflat] at h
    | .sc (.bool _) :: _, h => simp [unflat] at h
    | .sc (.str _) :: _, h => simp [unflat] at h

theorem flat_length : ∀ (t : Ty) (x : t.den), (flat t x).length = t.size := by
  intro t
  induction t with
  | pair a b iha ihb => intro x; simp [flat, Ty.size, iha, ihb]
  | _ => intro x; simp [flat, Ty.size]

/-! ### in memory -/

/-- A slice's value v reads as xs: L0: the blocks in which its row may lie; E: what its elements are; size: an element's cells. -/
def SRep (w : World) (L0 : Nat → Prop) {α : Type} (E : α → List Value → Prop) (size : Nat) (xs : List α) (v : Value) : Prop :=
  ∃ (A : Option Addr) (c : Nat), v = .slice A xs.length c ∧ xs.length ≤ c ∧ (A = none → c = 0) ∧
    ∀ a, A = some a → 0 < c → a.spot = none ∧ L0 a.block ∧ ∃ arr ty fr, w.heap[a.block]? = some (.cells arr ty fr) ∧ a.off + c * size ≤ arr.size ∧
      ∀ (i : Nat) (x : α), xs[i]? = some x → ∃ cs : List Value, cs.length = size ∧ (∀ (j : Nat) (u : Value), cs[j]? = some u → arr[a.off + i * size + j]? = some u) ∧ E x cs

def DRep (w : World) (L : Nat → Prop) : (t : Ty) → t.den → List Value → Prop
  | .unit, _, cs => cs = []
  | .int k, n, cs => cs = [.int k n]
  | .bool, b, cs => cs = [.bool b]
  | .str, s, cs => cs = [.string s]
  | .pair a b, x, cs => ∃ c1 c2, cs = c1 ++ c2 ∧ DRep w L a x.1 c1 ∧ DRep w L b x.2 c2
  | .sl e, xs, cs => ∃ v, cs = [v] ∧ SRep w L (DRep w L e) e.size xs v

/-- What lies in a cell reads as this. -/
def LRep (w : World) (L : Nat → Prop) : LD → Value → Prop
  | .sc s, v => v = s.val
  | .sl e xs, v => SRep w L (DRep w L e) e.size xs v

theorem DRep.length {w : World} {L : Nat → Prop} : ∀ {t : Ty} {x : t.den} {cs : List Value}, DRep w L t x cs → cs.length = t.size := by
  intro t
  induction t with
  | pair a b iha ihb =>
    intro x cs h
    obtain ⟨c1, c2, rfl, h1, h2⟩ := h
    simp [Ty.size, iha h1, ihb h2]
  | sl e _ => intro x cs h; obtain ⟨v, rfl, _⟩ := h; rfl
  | _ => intro x cs h; simp only [DRep] at h; subst h; rfl

theorem SRep.mono {w w' : World} {L0 L0' : Nat → Prop} {α : Type} {E E' : α → List Value → Prop} {size : Nat} {xs : List α} {v : Value}
    (h : SRep w L0 E size xs v) (hL : ∀ b, L0 b → L0' b ∧ w'.heap[b]? = w.heap[b]?) (hE : ∀ x cs, E x cs → E' x cs) : SRep w' L0' E' size xs v := by
  obtain ⟨A, c, hv, hc, hn, ha⟩ := h
  refine ⟨A, c, hv, hc, hn, fun a e e0 => ?_⟩
  obtain ⟨hs, hl, arr, ty, fr, hb, ho, hi⟩ := ha a e e0
  refine ⟨hs, (hL _ hl).1, arr, ty, fr, (hL _ hl).2.trans hb, ho, fun i x hx => ?_⟩
  obtain ⟨cs, h1, h2, h3⟩ := hi i x hx
  exact ⟨cs, h1, h2, hE _ _ h3⟩

theorem DRep.mono {w w' : World} {L L' : Nat → Prop} (hL : ∀ b, L b → L' b ∧ w'.heap[b]? = w.heap[b]?) :
    ∀ {t : Ty} {x : t.den} {cs : List Value}, DRep w L t x cs → DRep w' L' t x cs := by
  intro t
  induction t with
  | pair a b iha ihb =>
    intro x cs h
    obtain ⟨c1, c2, rfl, h1, h2⟩ := h
    exact ⟨c1, c2, rfl, iha h1, ihb h2⟩
  | sl e ih => intro x cs h; obtain ⟨v, rfl, h⟩ := h; exact ⟨v, rfl, h.mono hL fun x cs hx => ih hx⟩
  | _ => intro x cs h; exact h

/-- No slices within. -/
def Ty.plain : Ty → Bool
  | .sl _ => false
  | .pair a b => a.plain && b.plain
  | _ => true

theorem DRep.plain {w w' : World} {L L' : Nat → Prop} : ∀ {t : Ty} {x : t.den} {cs : List Value}, t.plain = true → DRep w L t x cs → DRep w' L' t x cs := by
  intro t
  induction t with
  | pair a b iha ihb =>
    intro x cs hp h
    simp only [Ty.plain, Bool.and_eq_true] at hp
    obtain ⟨c1, c2, rfl, h1, h2⟩ := h
    exact ⟨c1, c2, rfl, iha hp.1 h1, ihb hp.2 h2⟩
  | sl e ih => intro x cs hp; simp [Ty.plain] at hp
  | _ => intro x cs _ h; exact h

theorem LRep.mono {w w' : World} {L L' : Nat → Prop} (hL : ∀ b, L b → L' b ∧ w'.heap[b]? = w.heap[b]?) {d : LD} {v : Value} (h : LRep w L d v) : LRep w' L' d v := by
  cases d with
  | sc s => exact h
  | sl e xs => exact SRep.mono h hL fun x cs hx => DRep.mono hL hx

theorem Sc.cells_val (s : Sc) : s.val.cells = #[s.val] := by cases s <;> rfl

/-- A value's cells, one by one, against its flat data. -/
def AllRep {α : Type} (R : α → Value → Prop) : List α → List Value → Prop
  | [], cs => cs = []
  | d :: ds, cs => ∃ v r, cs = v :: r ∧ R d v ∧ AllRep R ds r

theorem AllRep.length {α : Type} {R : α → Value → Prop} : ∀ {ds : List α} {cs : List Value}, AllRep R ds cs → cs.length = ds.length := by
  intro ds
  induction ds with
  | nil => intro cs h; simp only [AllRep] at h; subst h; rfl
  | cons d ds ih => intro cs h; obtain ⟨v, r, rfl, _, h⟩ := h; simp [ih h]

theorem AllRep.append {α : Type} {R : α → Value → Prop} : ∀ {ds es : List α} {cs fs : List Value}, AllRep R ds cs → AllRep R es fs → AllRep R (ds ++ es) (cs ++ fs) := by
  intro ds
  induction ds with
  | nil => intro es cs fs h h'; simp only [AllRep] at h; subst h; exact h'
  | cons d ds ih => intro es cs fs h h'; obtain ⟨v, r, rfl, hv, h⟩ := h; exact ⟨v, r ++ fs, rfl, hv, ih h h'⟩

theorem AllRep.split {α : Type} {R : α → Value → Prop} : ∀ {ds es : List α} {cs : List Value}, AllRep R (ds ++ es) cs → ∃ c1 c2, cs = c1 ++ c2 ∧ AllRep R ds c1 ∧ AllRep R es c2 := by
  intro ds
  induction ds with
  | nil => intro es cs h; exact ⟨[], cs, rfl, rfl, h⟩
  | cons d ds ih =>
    intro es cs h
    obtain ⟨v, r, rfl, hv, h⟩ := h
    obtain ⟨c1, c2, rfl, h1, h2⟩ := ih h
    exact ⟨v :: c1, c2, rfl, ⟨v, c1, rfl, hv, h1⟩, h2⟩

theorem AllRep.get {α : Type} {R : α → Value → Prop} : ∀ {ds : List α} {cs : List Value}, AllRep R ds cs → ∀ (i : Nat) (d : α), ds[i]? = some d → ∃ v, cs[i]? = some v ∧ R d v := by
  intro ds
  induction ds with
  | nil => intro cs _ i d h; simp at h
  | cons d ds ih =>
    intro cs h i d' hd
    obtain ⟨v, r, rfl, hv, h⟩ := h
    cases i with
    | zero => simp at hd; subst hd; exact ⟨v, rfl, hv⟩
    | succ i => simp at hd; simpa using ih h i d' hd

theorem AllRep.mk {α : Type} {R : α → Value → Prop} : ∀ {ds : List α} {cs : List Value}, cs.length = ds.length → (∀ (i : Nat) (d : α) (v : Value), ds[i]? = some d → cs[i]? = some v → R d v) → AllRep R ds cs := by
  intro ds
  induction ds with
  | nil => intro cs h _; exact List.length_eq_zero_iff.1 h
  | cons d ds ih =>
    intro cs h hr
    cases cs with
    | nil => simp at h
    | cons v r => exact ⟨v, r, rfl, hr 0 d v rfl rfl, ih (by simpa using h) fun i d' v' h1 h2 => hr (i + 1) d' v' (by simpa using h1) (by simpa using h2)⟩

theorem AllRep.imp {α : Type} {R R' : α → Value → Prop} : ∀ {ds : List α} {cs : List Value}, AllRep R ds cs → (∀ d v, d ∈ ds → R d v → R' d v) → AllRep R' ds cs := by
  intro ds
  induction ds with
  | nil => intro cs h _; exact h
  | cons d ds ih =>
    intro cs h hr
    obtain ⟨v, r, rfl, hv, h⟩ := h
    exact ⟨v, r, rfl, hr _ _ (by simp) hv, ih h fun d' v' hm => hr d' v' (by simp [hm])⟩

theorem DRep.flat {w : World} {L : Nat → Prop} : ∀ {t : Ty} {x : t.den} {cs : List Value}, DRep w L t x cs → AllRep (LRep w L) (flat t x) cs := by
  intro t
  induction t with
  | unit => intro x cs h; exact h
  | int k => intro x cs h; simp only [DRep] at h; subst h; exact ⟨_, [], rfl, rfl, rfl⟩
  | bool => intro x cs h; simp only [DRep] at h; subst h; exact ⟨_, [], rfl, rfl, rfl⟩
  | str => intro x cs h; simp only [DRep] at h; subst h; exact ⟨_, [], rfl, rfl, rfl⟩
  | pair a b iha ihb => intro x cs h; obtain ⟨c1, c2, rfl, h1, h2⟩ := h; exact (iha h1).append (ihb h2)
  | sl e ih => intro x cs h; obtain ⟨v, rfl, h⟩ := h; exact ⟨v, [], rfl, h, rfl⟩

theorem DRep.of_flat {w : World} {L : Nat → Prop} : ∀ {t : Ty} {x : t.den} {cs : List Value}, AllRep (LRep w L) (Ev.flat t x) cs → DRep w L t x cs := by
  intro t
  induction t with
  | unit => intro x cs h; exact h
  | int k => intro x cs h; obtain ⟨v, r, rfl, hv, hr⟩ := h; simp only [AllRep] at hr; subst hr; simp only [LRep] at hv; subst hv; rfl
  | bool => intro x cs h; obtain ⟨v, r, rfl, hv, hr⟩ := h; simp only [AllRep] at hr; subst hr; simp only [LRep] at hv; subst hv; rfl
  | str => intro x cs h; obtain ⟨v, r, rfl, hv, hr⟩ := h; simp only [AllRep] at hr; subst hr; simp only [LRep] at hv; subst hv; rfl
  | pair a b iha ihb =>
    intro x cs h
    obtain ⟨c1, c2, rfl, h1, h2⟩ := AllRep.split h
    exact ⟨c1, c2, rfl, iha h1, ihb h2⟩
  | sl e ih => intro x cs h; obtain ⟨v, r, rfl, hv, hr⟩ := h; simp only [AllRep] at hr; subst hr; exact ⟨v, rfl, hv⟩

end Go.Proofs.YtnnnpppodblblaaGreat.Ev
/-
The abstract state, programs of accesses to it (Acc), their footprints; a program hangs on its footprint alone.
-/
namespace Go.Proofs.YtnnnpppodblblaaGreat.Ev
open Go

/-- A cell of a value in a slot or a box: nothing told, a scalar, a nil slice, a slice by its handle. -/
inductive Leaf where
  | dead
  | sc (s : Sc)
  | nil
  | sl (h : Nat)

/-- A value: one cell, or a struct's cells. -/
inductive CV where
  | leaf (l : Leaf)
  | agg (ls : List Leaf)

inductive SV where
  | dead
  | val (v : CV)
  | ptr (b : Nat) (off : Nat)
  | eptr (h : Nat) (size : Nat) (i : Int) (off : Nat)
  | fn (f : Nat) (caps : List (Option (Nat × Nat)))
  | tup (vs : List CV)

/-- A handle: its elements' type; the labels (with their ages) of its row, and of what its elements lead to; its content. -/
structure HRec where
  e : Ty
  spine : List (Nat × Nat)
  inner : List (Nat × Nat)
  xs : List e.den

inductive Key where
  | slot (n : Nat)
  | hnd (n : Nat)
  | box (n : Nat)
  | lab (n : Nat)
  | win (n : Nat)
  deriving DecidableEq

inductive UV where
  | no
  | sv (v : SV)
  | hr (r : HRec)
  | bx (ro : Bool) (ls : List Leaf)
  | ep (mt : Bool) (n : Nat)
  | wn (p lo size : Nat)

abbrev St := Key → UV

def St.set (st : St) (k : Key) (v : UV) : St := fun k' => if k' = k then v else st k'

inductive Acc (α : Type) : Type where
  | done (a : α)
  | fail
  | rd (k : Key) (f : UV → Acc α)
  | wr (k : Key) (v : UV) (n : Acc α)
  | br (b : Bool) (t e : Acc α)
  | opt (l : Ty) (o : Option l.den) (f : l.den → Acc α)

variable {α : Type}

def Acc.run : Acc α → St → Option (α × St)
  | .done a, st => some (a, st)
  | .fail, _ => none
  | .rd k f, st => (f (st k)).run st
  | .wr k v n, st => n.run (st.set k v)
  | .br b t e, st => bif b then t.run st else e.run st
  | .opt _ o f, st => o.bind fun x => (f x).run st

/-- The same, with what follows, and what was read and written. -/
def Acc.runK {ρ : Type} : Acc α → (α → List Key → List Key → St → Option ρ) → List Key → List Key → St → Option ρ
  | .done a, k, R, W, st => k a R W st
  | .fail, _, _, _, _ => none
  | .rd q f, k, R, W, st => (f (st q)).runK k (q :: R) W st
  | .wr q v n, k, R, W, st => n.runK k R (q :: W) (st.set q v)
  | .br b t e, k, R, W, st => bif b then t.runK k R W st else e.runK k R W st
  | .opt _ o f, k, R, W, st => o.bind fun x => (f x).runK k R W st

/-- The same, without asking what was read and written. -/
def Acc.go {ρ : Type} : Acc α → (α → St → Option ρ) → St → Option ρ
  | .done a, k, st => k a st
  | .fail, _, _ => none
  | .rd q f, k, st => (f (st q)).go k st
  | .wr q v n, k, st => n.go k (st.set q v)
  | .br b t e, k, st => bif b then t.go k st else e.go k st
  | .opt _ o f, k, st => o.bind fun x => (f x).go k st

/-- What a program reads and writes, from here on. -/
def Acc.fp : Acc α → St → List Key → List Key → List Key × List Key
  | .done _, _, R, W => (R, W)
  | .fail, _, R, W => (R, W)
  | .rd q f, st, R, W => (f (st q)).fp st (q :: R) W
  | .wr q v n, st, R, W => n.fp (st.set q v) R (q :: W)
  | .br b t e, st, R, W => bif b then t.fp st R W else e.fp st R W
  | .opt _ o f, st, R, W => match o with | some x => (f x).fp st R W | none => (R, W)

theorem Acc.runK_eq {ρ : Type} (a : Acc α) (k : α → List Key → List Key → St → Option ρ) :
    ∀ (R W : List Key) (st : St), a.runK k R W st = (a.run st).bind fun p => k p.1 (a.fp st R W).1 (a.fp st R W).2 p.2 := by
  induction a with
  | done x => intro R W st; rfl
  | fail => intro R W st; rfl
  | rd q f ih => intro R W st; exact ih (st q) (q :: R) W st
  | wr q v n ih => intro R W st; exact ih R (q :: W) (st.set q v)
  | br b t e iht ihe => intro R W st; cases b <;> simp only [runK, run, fp, cond_true, cond_false] <;> first | exact ihe R W st | exact iht R W st
  | opt l o f ih => intro R W st; cases o with
    | none => rfl
    | some x => exact ih x R W st

theorem Acc.go_eq {ρ : Type} (a : Acc α) (k : α → St → Option ρ) : ∀ (st : St), a.go k st = (a.run st).bind fun p => k p.1 p.2 := by
  induction a with
  | done x => intro st; rfl
  | fail => intro st; rfl
  | rd q f ih => intro st; exact ih (st q) st
  | wr q v n ih => intro st; exact ih (st.set q v)
  | br b t e iht ihe => intro st; cases b <;> simp only [go, run, cond_true, cond_false] <;> first | exact ihe st | exact iht st
  | opt l o f ih => intro st; cases o with
    | none => rfl
    | some x => exact ih x st

/-- The writes only grow, and so do the reads. -/
theorem Acc.fp_sub (a : Acc α) : ∀ (R W : List Key) (st : St), (∀ k, k ∈ R → k ∈ (a.fp st R W).1) ∧ (∀ k, k ∈ W → k ∈ (a.fp st R W).2) := by
  induction a with
  | done x => intro R W st; exact ⟨fun _ h => h, fun _ h => h⟩
  | fail => intro R W st; exact ⟨fun _ h => h, fun _ h => h⟩
  | rd q f ih => intro R W st; have h := ih (st q) (q :: R) W st; exact ⟨fun k hk => h.1 k (List.mem_cons_of_mem _ hk), h.2⟩
  | wr q v n ih => intro R W st; have h := ih R (q :: W) (st.set q v); exact ⟨h.1, fun k hk => h.2 k (List.mem_cons_of_mem _ hk)⟩
  | br b t e iht ihe => intro R W st; cases b <;> simp only [fp, cond_true, cond_false] <;> first | exact ihe R W st | exact iht R W st
  | opt l o f ih => intro R W st; cases o with
    | none => exact ⟨fun _ h => h, fun _ h => h⟩
    | some x => exact ih x R W st

theorem St.set_same (st : St) (k : Key) (v : UV) : st.set k v k = v := by simp [St.set]
theorem St.set_ne (st : St) {k q : Key} (v : UV) (h : q ≠ k) : st.set k v q = st q := by simp [St.set, h]

/-- A run hangs on what is read (and on what is written) alone: at a state that agrees there it does the same, and leaves all else as it is. -/
theorem Acc.local_ (a : Acc α) : ∀ (R W : List Key) (st st2 : St) (y : α) (st' : St), a.run st = some (y, st') →
    (∀ k, k ∈ (a.fp st R W).1 → st2 k = st k) → (∀ k, k ∈ (a.fp st R W).2 → st2 k = st k) →
    ∃ st2', a.run st2 = some (y, st2') ∧ (∀ k, k ∈ (a.fp st R W).2 → st2' k = st' k) ∧ (∀ k, k ∉ (a.fp st R W).2 → st2' k = st2 k) ∧ a.fp st2 R W = a.fp st R W := by
  induction a with
  | done x => intro R W st st2 y st' h hr hw; simp only [run, Option.some.injEq, Prod.mk.injEq] at h; obtain ⟨rfl, rfl⟩ := h; exact ⟨st2, rfl, fun k hk => hw k hk, fun k _ => rfl, rfl⟩
  | fail => intro R W st st2 y st' h; simp [run] at h
  | rd q f ih =>
    intro R W st st2 y st' h hr hw
    have hq : st2 q = st q := hr q ((Acc.fp_sub (f (st q)) (q :: R) W st).1 q (by simp))
    simp only [run, fp] at h hr hw ⊢
    rw [hq]
    exact ih (st q) (q :: R) W st st2 y st' h hr hw
  | wr q v n ih =>
    intro R W st st2 y st' h hr hw
    simp only [run, fp] at h hr hw ⊢
    obtain ⟨st2', h1, h2, h3, h4⟩ := ih R (q :: W) (st.set q v) (st2.set q v) y st' h
      (fun k hk => by by_cases e : k = q
                      · subst e; simp [St.set_same]
                      · rw [St.set_ne _ _ e, St.set_ne _ _ e]; exact hr k hk)
      (fun k hk => by by_cases e : k = q
                      · subst e; simp [St.set_same]
                      · rw [St.set_ne _ _ e, St.set_ne _ _ e]; exact hw k hk)
    refine ⟨st2', h1, h2, fun k hk => ?_, h4⟩
    have hne : k ≠ q := fun e => hk (e ▸ (Acc.fp_sub n R (q :: W) (st.set q v)).2 q (by simp))
    rw [h3 k hk, St.set_ne _ _ hne]
  | br b t e iht ihe =>
    intro R W st st2 y st' h hr hw
    cases b <;> simp only [run, fp, cond_true, cond_false] at h hr hw ⊢
    · exact ihe R W st st2 y st' h hr hw
    · exact iht R W st st2 y st' h hr hw
  | opt l o f ih =>
    intro R W st st2 y st' h hr hw
    cases o with
    | none => simp [run] at h
    | some x => exact ih x R W st st2 y st' h hr hw

theorem Acc.run_keeps (a : Acc α) (R W : List Key) (st st' : St) (y : α) (h : a.run st = some (y, st')) (k : Key) (hk : k ∉ (a.fp st R W).2) : st' k = st k := by
  obtain ⟨st2', h1, _, h3, _⟩ := a.local_ R W st st y st' h (fun _ _ => rfl) (fun _ _ => rfl)
  rw [h] at h1; cases h1
  exact h3 k hk

end Go.Proofs.YtnnnpppodblblaaGreat.Ev
/-
The relation between the abstract state and the machine's.
-/
namespace Go.Proofs.YtnnnpppodblblaaGreat.Ev
open Go

structure Ctx where
  w0 : World
  lb0 : Nat → Nat → Prop
  Pl : Nat → Bool
  Ph : Nat → Bool
  Pb : Nat → Bool
  hd0 : Nat → Option Value
  bx0 : Nat → Option Addr
  Open : Nat → Prop
  Rng : Nat → Nat → Prop
  nt : Nat
  own : ∀ n, n < 10000000 → Ph n = false ∧ Pl n = false ∧ Pb n = false

/-- What is not in the abstract state: a handle's value, a box's address, the labels of blocks. -/
structure Gh where
  hd : Nat → Option Value
  bxa : Nat → Option Addr
  lb : Nat → Nat → Prop

structure GhExt (g g' : Gh) : Prop where
  hd : ∀ h v, g.hd h = some v → g'.hd h = some v
  bxa : ∀ b v, g.bxa b = some v → g'.bxa b = some v
  lb : ∀ b l, g.lb b l → g'.lb b l

theorem GhExt.refl (g : Gh) : GhExt g g := ⟨fun _ _ h => h, fun _ _ h => h, fun _ _ h => h⟩

def LB (g : Gh) (s : List (Nat × Nat)) (b : Nat) : Prop := ∃ p, p ∈ s ∧ g.lb b p.1

def Free (arr : Array Value) (fr : Nat × Nat) : Prop := ∀ o, o < arr.size → ¬ (fr.1 ≤ o ∧ o < fr.2)

def LeafRep (g : Gh) : Leaf → Value → Prop
  | .dead, v => v.oneCell = true
  | .sc s, v => v = s.val
  | .nil, v => v = .slice none 0 0
  | .sl h, v => g.hd h = some v ∧ v.oneCell = true

def CVRep (g : Gh) : CV → Value → Prop
  | .leaf l, v => LeafRep g l v
  | .agg ls, v => ∃ cs, v = .agg cs ∧ AllRep (LeafRep g) ls cs.toList

/-- What a function value has caught: a box, or nothing. -/
def CapRep (g : Gh) : Option (Nat × Nat) → Value → Prop
  | none, v => v = .pointer none
  | some p, v => ∃ ad, g.bxa p.1 = some ad ∧ v = .pointer (some ⟨ad.block, ad.off + p.2, none⟩)

def SVRep (g : Gh) : SV → Value → Prop
  | .dead, _ => True
  | .val c, v => CVRep g c v
  | .ptr b off, v => ∃ ad, g.bxa b = some ad ∧ v = .pointer (some ⟨ad.block, ad.off + off, none⟩)
  | .eptr h sz i off, v => ∃ ad len cap, g.hd h = some (.slice (some ad) len cap) ∧ 0 ≤ i ∧ i < (len : Int) ∧ ad.spot = none ∧ v = .pointer (some ⟨ad.block, ad.off + i.toNat * sz + off, none⟩)
  | .tup cs, v => ∃ vs, v = .tuple vs ∧ AllRep (CVRep g) cs vs.toList
  | .fn f caps, v => ∃ cs, v = .func (.func f) #[] cs ∧ AllRep (CapRep g) caps cs.toList

theorem LeafRep.one {g : Gh} {l : Leaf} {v : Value} (h : LeafRep g l v) : v.oneCell = true := by
  cases l with
  | dead => exact h
  | sc s => simp only [LeafRep] at h; subst h; cases s <;> rfl
  | nil => simp only [LeafRep] at h; subst h; rfl
  | sl q => exact h.2

theorem LeafRep.ext {g g' : Gh} (e : GhExt g g') {l : Leaf} {v : Value} (h : LeafRep g l v) : LeafRep g' l v := by
  cases l with
  | sl q => exact ⟨e.hd _ _ h.1, h.2⟩
  | _ => exact h

theorem CVRep.ext {g g' : Gh} (e : GhExt g g') {c : CV} {v : Value} (h : CVRep g c v) : CVRep g' c v := by
  cases c with
  | leaf l => exact LeafRep.ext e h
  | agg ls => obtain ⟨cs, h1, h2⟩ := h; exact ⟨cs, h1, h2.imp fun _ _ _ hv => LeafRep.ext e hv⟩

theorem CapRep.ext {g g' : Gh} (e : GhExt g g') {c : Option (Nat × Nat)} {v : Value} (h : CapRep g c v) : CapRep g' c v := by
  cases c with
  | none => exact h
  | some p => obtain ⟨ad, h1, h2⟩ := h; exact ⟨ad, e.bxa _ _ h1, h2⟩

theorem SVRep.ext {g g' : Gh} (e : GhExt g g') {s : SV} {v : Value} (h : SVRep g s v) : SVRep g' s v := by
  cases s with
  | dead => exact h
  | val c => exact CVRep.ext e h
  | ptr b off => obtain ⟨ad, h1, h2⟩ := h; exact ⟨ad, e.bxa _ _ h1, h2⟩
  | eptr q sz i off => obtain ⟨ad, len, cap, h1, h2⟩ := h; exact ⟨ad, len, cap, e.hd _ _ h1, h2⟩
  | tup cs => obtain ⟨vs, h1, h2⟩ := h; exact ⟨vs, h1, h2.imp fun _ _ _ hv => CVRep.ext e hv⟩
  | fn f caps => obtain ⟨vs, h1, h2⟩ := h; exact ⟨vs, h1, h2.imp fun _ _ _ hv => CapRep.ext e hv⟩

theorem LB.ext {g g' : Gh} (e : GhExt g g') {s : List (Nat × Nat)} {b : Nat} (h : LB g s b) : LB g' s b := by
  obtain ⟨p, h1, h2⟩ := h; exact ⟨p, h1, e.lb _ _ h2⟩

def BoxRep (g : Gh) (w : World) (ad : Addr) (ls : List Leaf) : Prop :=
  ∃ arr ty fr, w.heap[ad.block]? = some (.cells arr ty fr) ∧ ad.off + ls.length ≤ arr.size ∧ ∀ (j : Nat) (l : Leaf), ls[j]? = some l → ∃ v, arr[ad.off + j]? = some v ∧ LeafRep g l v

def BlockKept (R : Nat → Prop) (o o' : Option Obj) : Prop :=
  o' = o ∨ ∃ arr arr' ty fr, o = some (.cells arr ty fr) ∧ o' = some (.cells arr' ty fr) ∧ arr'.size = arr.size ∧ ∀ i, ¬ R i → arr'[i]? = arr[i]?

theorem BlockKept.refl (R : Nat → Prop) (o : Option Obj) : BlockKept R o o := .inl rfl

theorem BlockKept.trans {R : Nat → Prop} {o o' o'' : Option Obj} (h : BlockKept R o o') (h' : BlockKept R o' o'') : BlockKept R o o'' := by
  rcases h' with h' | ⟨a1, a2, t1, f1, e1, e2, e3, e4⟩
  · subst h'; exact h
  · rcases h with h | ⟨b1, b2, t2, f2, d1, d2, d3, d4⟩
    · subst h; exact .inr ⟨a1, a2, t1, f1, e1, e2, e3, e4⟩
    · rw [d2] at e1; cases e1
      exact .inr ⟨b1, a2, _, _, d1, e2, e3.trans d3, fun i hi => (e4 i hi).trans (d4 i hi)⟩

theorem BlockKept.none {R : Nat → Prop} {o o' : Option Obj} (h : BlockKept R o o') (hR : ∀ i, ¬ R i) : o' = o := by
  rcases h with h | ⟨a1, a2, t1, f1, e1, e2, e3, e4⟩
  · exact h
  · have : a2 = a1 := Array.ext_getElem? fun i => e4 i (hR i)
    rw [e1, e2, this]

def Cells (w : World) (b : Nat) : Prop := ∃ arr ty fr, w.heap[b]? = some (.cells arr ty fr) ∧ Free arr fr

def Alive (st : St) (r : HRec) : Prop := ∀ p, p ∈ r.spine ++ r.inner → ∃ m, st (.lab p.1) = .ep m p.2

/-- A handle that is the end of another one, from lo on. -/
def WinRep (g : Gh) (h p lo sz : Nat) : Prop :=
  ∃ A len cap, g.hd p = some (.slice A len cap) ∧ g.hd h = some (.slice (if cap = lo then A else A.map (·.add (lo * sz))) (len - lo) (cap - lo)) ∧ lo ≤ len ∧ len ≤ cap

theorem WinRep.ext {g g' : Gh} (e : GhExt g g') {h p lo sz : Nat} (x : WinRep g h p lo sz) : WinRep g' h p lo sz := by
  obtain ⟨A, len, cap, h1, h2, h3⟩ := x; exact ⟨A, len, cap, e.hd _ _ h1, e.hd _ _ h2, h3⟩

structure Rel (C : Ctx) (g : Gh) (st : St) (a : Act) (w : World) : Prop where
  slots : ∀ n v, st (.slot n) = .sv v → SVRep g v (a.tmps.getD n undef)
  hnds : ∀ h r, st (.hnd h) = .hr r → ∃ v, g.hd h = some v ∧ (Alive st r → SRep w (LB g r.spine) (DRep w (LB g r.inner) r.e) r.e.size r.xs v)
  boxes : ∀ b ro ls, st (.box b) = .bx ro ls → ∃ ad, g.bxa b = some ad ∧ BoxRep g w ad ls
  hdom : ∀ h v, g.hd h = some v → ∃ r, st (.hnd h) = .hr r
  bdom : ∀ b ad, g.bxa b = some ad → ad.spot = none ∧ ∃ ro ls, st (.box b) = .bx ro ls
  hlabs : ∀ h r, st (.hnd h) = .hr r → ∀ p, p ∈ r.spine ++ r.inner → ∃ m n, st (.lab p.1) = .ep m n ∧ p.2 ≤ n
  labs : ∀ b l, g.lb b l → (∃ m n, st (.lab l) = .ep m n) ∧ b < w.heap.size
  muts : ∀ b l n, g.lb b l → st (.lab l) = .ep true n → (∀ l', g.lb b l' → l' = l) ∧ (∀ r ad, g.bxa r = some ad → ad.block ≠ b) ∧ Cells w b ∧ (b < C.w0.heap.size → C.Open b)
  rws : ∀ r ls ad, st (.box r) = .bx false ls → g.bxa r = some ad → (∀ l, ¬ g.lb ad.block l) ∧ (∀ r' ad', r' ≠ r → g.bxa r' = some ad' → ad'.block ≠ ad.block) ∧ Cells w ad.block ∧
    (ad.block < C.w0.heap.size → ∀ j, j < ls.length → C.Rng ad.block (ad.off + j))
  pls : ∀ b l, g.lb b l → (C.Pl l = true → C.lb0 b l) ∧ (C.Pl l = false → C.w0.heap.size ≤ b)
  phs : ∀ h, C.Ph h = true → ∀ v, g.hd h = some v → C.hd0 h = some v
  pbs : ∀ b, C.Pb b = true → ∀ ad, g.bxa b = some ad → C.bx0 b = some ad
  wins : ∀ h p lo sz, st (.win h) = .wn p lo sz → WinRep g h p lo sz
  nbs : ∀ b, C.Pb b = false → ∀ ad, g.bxa b = some ad → C.w0.heap.size ≤ ad.block
  frame : ∀ b, b < C.w0.heap.size → ¬ C.Open b → BlockKept (C.Rng b) C.w0.heap[b]? w.heap[b]?
  cells : ∀ b, Cells C.w0 b → Cells w b
  size : C.w0.heap.size ≤ w.heap.size
  os : w.os = C.w0.os
  tape : w.tape = C.w0.tape
  output : w.output = C.w0.output
  defers : a.defers = []
  nt : a.tmps.size = C.nt

variable {C : Ctx} {g : Gh} {st : St} {a : Act} {w : World}

theorem BoxRep.world {w' : World} {ad : Addr} {ls : List Leaf} (h : BoxRep g w ad ls) (hb : w'.heap[ad.block]? = w.heap[ad.block]?) : BoxRep g w' ad ls := by
  obtain ⟨arr, ty, fr, h1, h2⟩ := h
  exact ⟨arr, ty, fr, hb.trans h1, h2⟩

theorem BoxRep.ext {g' : Gh} (e : GhExt g g') {ad : Addr} {ls : List Leaf} (h : BoxRep g w ad ls) : BoxRep g' w ad ls := by
  obtain ⟨arr, ty, fr, h1, h2, h3⟩ := h
  exact ⟨arr, ty, fr, h1, h2, fun j l hl => by obtain ⟨v, h4, h5⟩ := h3 j l hl; exact ⟨v, h4, LeafRep.ext e h5⟩⟩

theorem Cells.world {w' : World} {b : Nat} (h : Cells w b) (hb : w'.heap[b]? = w.heap[b]?) : Cells w' b := by
  obtain ⟨arr, ty, fr, h1, h2⟩ := h
  exact ⟨arr, ty, fr, hb.trans h1, h2⟩

theorem Cells.lt {b : Nat} (h : Cells w b) : b < w.heap.size := by
  obtain ⟨arr, ty, fr, h1, _⟩ := h
  exact (Array.getElem?_eq_some_iff.1 h1).1

theorem BoxRep.lt {ad : Addr} {ls : List Leaf} (h : BoxRep g w ad ls) : ad.block < w.heap.size := by
  obtain ⟨arr, ty, fr, h1, _⟩ := h
  exact (Array.getElem?_eq_some_iff.1 h1).1

/-- The world grows, and draws: what is told of it stands. -/
theorem Rel.world {w' : World} (h : Rel C g st a w) (hh : ∀ b, b < w.heap.size → w'.heap[b]? = w.heap[b]?) (hs : w.heap.size ≤ w'.heap.size)
    (h1 : w'.os = w.os) (h2 : w'.tape = w.tape) (h3 : w'.output = w.output) : Rel C g st a w' :=
  { h with
    hnds := fun q r hq => by
      obtain ⟨v, hv, hs⟩ := h.hnds q r hq
      have hL : ∀ s b, LB g s b → LB g s b ∧ w'.heap[b]? = w.heap[b]? := fun s b hb => ⟨hb, by obtain ⟨p, _, hp⟩ := hb; exact hh b (h.labs b p.1 hp).2⟩
      exact ⟨v, hv, fun hal => (hs hal).mono (hL _) fun x cs hx => DRep.mono (hL _) hx⟩
    boxes := fun b ro ls hb => by obtain ⟨ad, h1, h2⟩ := h.boxes b ro ls hb; exact ⟨ad, h1, h2.world (hh _ h2.lt)⟩
    labs := fun b l hl => ⟨(h.labs b l hl).1, Nat.lt_of_lt_of_le (h.labs b l hl).2 hs⟩
    muts := fun b l n hl hn => by
      obtain ⟨p1, p2, p3, p4⟩ := h.muts b l n hl hn
      exact ⟨p1, p2, p3.world (hh _ (h.labs b l hl).2), p4⟩
    rws := fun r ls ad hr ha => by
      obtain ⟨p1, p2, p3, p4⟩ := h.rws r ls ad hr ha
      exact ⟨p1, p2, p3.world (hh _ p3.lt), p4⟩
    frame := fun b hb ho => by rw [hh b (Nat.lt_of_lt_of_le hb h.size)]; exact h.frame b hb ho
    cells := fun b hb => (h.cells b hb).world (hh _ (h.cells b hb).lt)
    size := Nat.le_trans h.size hs
    os := h1.trans h.os
    tape := h2.trans h.tape
    output := h3.trans h.output }

theorem Rel.drew (h : Rel C g st a w) : Rel C g st a { w with drawn := w.drawn + 1 } :=
  h.world (fun _ _ => rfl) (Nat.le_refl _) rfl rfl rfl

theorem push_old {w : World} {o : Obj} {b : Nat} (hb : b < w.heap.size) : (w.heap.push o)[b]? = w.heap[b]? := by
  simp [Array.getElem?_push, Nat.ne_of_lt hb]

theorem Rel.alloc (h : Rel C g st a w) (o : Obj) : Rel C g st a { w with heap := w.heap.push o } :=
  h.world (fun b hb => push_old hb) (by simp) rfl rfl rfl

theorem getD_put (a : Act) (d n : Nat) (v : Value) (hd : d < a.tmps.size) : (a.put (some d) v).tmps.getD n undef = if n = d then v else a.tmps.getD n undef := by
  by_cases e : n = d
  · subst e; simp [Act.put, hd]
  · have e' : d ≠ n := fun x => e x.symm
    simp [Act.put, e, Array.getElem?_setIfInBounds_ne e']

theorem St.slot_hnd (st : St) (d n : Nat) (v : UV) : (st.set (.slot d) v) (.hnd n) = st (.hnd n) := St.set_ne _ _ (by simp)
theorem St.slot_box (st : St) (d n : Nat) (v : UV) : (st.set (.slot d) v) (.box n) = st (.box n) := St.set_ne _ _ (by simp)
theorem St.slot_lab (st : St) (d n : Nat) (v : UV) : (st.set (.slot d) v) (.lab n) = st (.lab n) := St.set_ne _ _ (by simp)
theorem St.hnd_slot (st : St) (d n : Nat) (v : UV) : (st.set (.hnd d) v) (.slot n) = st (.slot n) := St.set_ne _ _ (by simp)
theorem St.hnd_box (st : St) (d n : Nat) (v : UV) : (st.set (.hnd d) v) (.box n) = st (.box n) := St.set_ne _ _ (by simp)
theorem St.hnd_lab (st : St) (d n : Nat) (v : UV) : (st.set (.hnd d) v) (.lab n) = st (.lab n) := St.set_ne _ _ (by simp)
theorem St.box_slot (st : St) (d n : Nat) (v : UV) : (st.set (.box d) v) (.slot n) = st (.slot n) := St.set_ne _ _ (by simp)
theorem St.box_hnd (st : St) (d n : Nat) (v : UV) : (st.set (.box d) v) (.hnd n) = st (.hnd n) := St.set_ne _ _ (by simp)
theorem St.box_lab (st : St) (d n : Nat) (v : UV) : (st.set (.box d) v) (.lab n) = st (.lab n) := St.set_ne _ _ (by simp)
theorem St.lab_slot (st : St) (d n : Nat) (v : UV) : (st.set (.lab d) v) (.slot n) = st (.slot n) := St.set_ne _ _ (by simp)
theorem St.lab_hnd (st : St) (d n : Nat) (v : UV) : (st.set (.lab d) v) (.hnd n) = st (.hnd n) := St.set_ne _ _ (by simp)
theorem St.lab_box (st : St) (d n : Nat) (v : UV) : (st.set (.lab d) v) (.box n) = st (.box n) := St.set_ne _ _ (by simp)

theorem St.slot_win (st : St) (d n : Nat) (v : UV) : (st.set (.slot d) v) (.win n) = st (.win n) := St.set_ne _ _ (by simp)
theorem St.hnd_win (st : St) (d n : Nat) (v : UV) : (st.set (.hnd d) v) (.win n) = st (.win n) := St.set_ne _ _ (by simp)
theorem St.box_win (st : St) (d n : Nat) (v : UV) : (st.set (.box d) v) (.win n) = st (.win n) := St.set_ne _ _ (by simp)
theorem St.lab_win (st : St) (d n : Nat) (v : UV) : (st.set (.lab d) v) (.win n) = st (.win n) := St.set_ne _ _ (by simp)
theorem St.win_slot (st : St) (d n : Nat) (v : UV) : (st.set (.win d) v) (.slot n) = st (.slot n) := St.set_ne _ _ (by simp)
theorem St.win_hnd (st : St) (d n : Nat) (v : UV) : (st.set (.win d) v) (.hnd n) = st (.hnd n) := St.set_ne _ _ (by simp)
theorem St.win_box (st : St) (d n : Nat) (v : UV) : (st.set (.win d) v) (.box n) = st (.box n) := St.set_ne _ _ (by simp)
theorem St.win_lab (st : St) (d n : Nat) (v : UV) : (st.set (.win d) v) (.lab n) = st (.lab n) := St.set_ne _ _ (by simp)
theorem Rel.put (h : Rel C g st a w) {d : Nat} {v : SV} {u : Value} (hd : d < C.nt) (hv : SVRep g v u) :
    Rel C g (st.set (.slot d) (.sv v)) (a.put (some d) u) w := by
  have hal : ∀ r, Alive (st.set (.slot d) (.sv v)) r ↔ Alive st r := fun r => by simp only [Alive, St.slot_lab]
  exact { h with
    slots := fun n v' hn => by
      rw [getD_put a d n u (by rw [h.nt]; exact hd)]
      by_cases e : n = d
      · subst e; rw [St.set_same] at hn; cases hn; simpa using hv
      · rw [St.set_ne _ _ (by simpa using e)] at hn; simp only [e, if_false]; exact h.slots n v' hn
    hnds := fun q r hq => by rw [St.slot_hnd] at hq; simp only [hal]; exact h.hnds q r hq
    boxes := fun b ro ls hq => by rw [St.slot_box] at hq; exact h.boxes b ro ls hq
    hdom := fun q v hq => by rw [St.slot_hnd]; exact h.hdom q v hq
    bdom := fun q v hq => by rw [St.slot_box]; exact h.bdom q v hq
    hlabs := fun q r hq p hp => by rw [St.slot_hnd] at hq; rw [St.slot_lab]; exact h.hlabs q r hq p hp
    labs := fun b l hq => by rw [St.slot_lab]; exact h.labs b l hq
    muts := fun b l n hq hn => by rw [St.slot_lab] at hn; exact h.muts b l n hq hn
    rws := fun r ls ad hq ha => by rw [St.slot_box] at hq; exact h.rws r ls ad hq ha
    wins := fun q p lo sz hq => by rw [St.slot_win] at hq; exact h.wins q p lo sz hq
    defers := h.defers
    nt := by simp [Act.put, h.nt] }

/-- A new handle. -/
def Gh.addH (g : Gh) (id : Nat) (v : Value) : Gh := { g with hd := fun h => if h = id then some v else g.hd h }

theorem Gh.addH_ext {g : Gh} {id : Nat} (h : g.hd id = none) (v : Value) : GhExt g (g.addH id v) :=
  ⟨fun q u hq => by
    by_cases e : q = id
    · subst e; rw [h] at hq; cases hq
    · simp [Gh.addH, e, hq], fun _ _ h => h, fun _ _ h => h⟩

theorem Rel.no_hd (h : Rel C g st a w) {id : Nat} (hid : st (.hnd id) = .no) : g.hd id = none := by
  cases e : g.hd id with
  | none => rfl
  | some v => obtain ⟨r, hr⟩ := h.hdom id v e; rw [hid] at hr; cases hr

theorem Rel.no_bx (h : Rel C g st a w) {id : Nat} (hid : st (.box id) = .no) : g.bxa id = none := by
  cases e : g.bxa id with
  | none => rfl
  | some v => obtain ⟨_, ro, ls, hr⟩ := h.bdom id v e; rw [hid] at hr; cases hr

theorem Rel.no_lb (h : Rel C g st a w) {id : Nat} (hid : st (.lab id) = .no) (b : Nat) : ¬ g.lb b id := by
  intro e; obtain ⟨m, n, hr⟩ := (h.labs b id e).1; rw [hid] at hr; cases hr

/-- A handle of what is there already. -/
theorem Rel.alias (h : Rel C g st a w) {id : Nat} {r : HRec} {v : Value} (hid : st (.hnd id) = .no) (hp : C.Ph id = false)
    (hl : ∀ p, p ∈ r.spine ++ r.inner → ∃ m n, st (.lab p.1) = .ep m n ∧ p.2 ≤ n)
    (hs : Alive st r → SRep w (LB g r.spine) (DRep w (LB g r.inner) r.e) r.e.size r.xs v) : Rel C (g.addH id v) (st.set (.hnd id) (.hr r)) a w := by
  have hg := h.no_hd hid
  have ex := Gh.addH_ext hg v
  have hal : ∀ q, Alive (st.set (.hnd id) (.hr r)) q ↔ Alive st q := fun q => by simp only [Alive, St.hnd_lab]
  exact { h with
    slots := fun n v' hn => by rw [St.hnd_slot] at hn; exact (h.slots n v' hn).ext ex
    hnds := fun q r' hq => by
      by_cases e : q = id
      · subst e; rw [St.set_same] at hq; cases hq
        exact ⟨v, by simp [Gh.addH], fun ha => hs ((hal r).1 ha)⟩
      · rw [St.set_ne _ _ (by simpa using e)] at hq
        obtain ⟨u, h1, h2⟩ := h.hnds q r' hq
        exact ⟨u, ex.hd _ _ h1, fun ha => h2 ((hal r').1 ha)⟩
    boxes := fun b ro ls hq => by rw [St.hnd_box] at hq; obtain ⟨ad, h1, h2⟩ := h.boxes b ro ls hq; exact ⟨ad, h1, h2.ext ex⟩
    hdom := fun q u hq => by
      by_cases e : q = id
      · subst e; exact ⟨r, St.set_same _ _ _⟩
      · simp only [Gh.addH, if_neg e] at hq
        rw [St.set_ne _ _ (by simpa using e)]; exact h.hdom q u hq
    bdom := fun q u hq => by rw [St.hnd_box]; exact h.bdom q u hq
    hlabs := fun q r' hq p hp => by
      rw [St.hnd_lab]
      by_cases e : q = id
      · subst e; rw [St.set_same] at hq; cases hq; exact hl p hp
      · rw [St.set_ne _ _ (by simpa using e)] at hq; exact h.hlabs q r' hq p hp
    labs := fun b l hq => by rw [St.hnd_lab]; exact h.labs b l hq
    muts := fun b l n hq hn => by rw [St.hnd_lab] at hn; exact h.muts b l n hq hn
    rws := fun r' ls ad hq ha => by rw [St.hnd_box] at hq; exact h.rws r' ls ad hq ha
    wins := fun q p lo sz hq => by rw [St.hnd_win] at hq; exact (h.wins q p lo sz hq).ext ex
    phs := fun q hq u hu => by
      by_cases e : q = id
      · subst e; rw [hp] at hq; cases hq
      · simp only [Gh.addH, if_neg e] at hu; exact h.phs q hq u hu }

/-- A new block with a label of its own. -/
def Gh.addL (g : Gh) (id b : Nat) : Gh := { g with lb := fun b' l => g.lb b' l ∨ (b' = b ∧ l = id) }

theorem Gh.addL_ext (g : Gh) (id b : Nat) : GhExt g (g.addL id b) := ⟨fun _ _ h => h, fun _ _ h => h, fun _ _ h => .inl h⟩

theorem push_new {w : World} {o : Obj} : (w.heap.push o)[w.heap.size]? = some o := by simp

theorem Rel.newLab (h : Rel C g st a w) {id : Nat} (hid : st (.lab id) = .no) (hp : C.Pl id = false) (arr : Array Value) (ty : TypeId) (fr : Nat × Nat) (hf : Free arr fr) :
    Rel C (g.addL id w.heap.size) (st.set (.lab id) (.ep true 0)) a { w with heap := w.heap.push (.cells arr ty fr) } := by
  have h0 := h
  replace h := h.alloc (.cells arr ty fr)
  have hsz : (w.heap.push (Obj.cells arr ty fr)).size = w.heap.size + 1 := by simp
  have lne : ∀ b l, g.lb b l → l ≠ id := fun b l hl e => by subst e; exact h0.no_lb hid b hl
  have slab : ∀ l, l ≠ id → (st.set (.lab id) (.ep true 0)) (.lab l) = st (.lab l) := fun l hl => St.set_ne _ _ (by simpa using hl)
  have hal : ∀ q r, st (.hnd q) = .hr r → Alive (st.set (.lab id) (.ep true 0)) r → Alive st r := fun q r hq ha p hp => by
    have : p.1 ≠ id := fun e => by obtain ⟨m, n, hm, _⟩ := h0.hlabs q r hq p hp; rw [e, hid] at hm; cases hm
    have h1 := ha p hp
    rwa [slab _ this] at h1
  have hLB : ∀ (s : List (Nat × Nat)) q r, st (.hnd q) = .hr r → (∀ p, p ∈ s → p ∈ r.spine ++ r.inner) → ∀ b, LB g s b → LB (g.addL id w.heap.size) s b ∧ (w.heap.push (Obj.cells arr ty fr))[b]? = (w.heap.push (Obj.cells arr ty fr))[b]? :=
    fun s q r _ _ b hb => ⟨LB.ext (Gh.addL_ext _ _ _) hb, rfl⟩
  exact { h with
    slots := fun n v' hn => by rw [St.lab_slot] at hn; exact (h.slots n v' hn).ext (Gh.addL_ext _ _ _)
    hnds := fun q r hq => by
      rw [St.lab_hnd] at hq
      obtain ⟨v, h1, h2⟩ := h.hnds q r hq
      exact ⟨v, h1, fun ha => (h2 (hal q r hq ha)).mono (fun b hb => ⟨LB.ext (Gh.addL_ext _ _ _) hb, rfl⟩) fun x cs hx => DRep.mono (fun b hb => ⟨LB.ext (Gh.addL_ext _ _ _) hb, rfl⟩) hx⟩
    boxes := fun b ro ls hq => by rw [St.lab_box] at hq; obtain ⟨ad, h1, h2⟩ := h.boxes b ro ls hq; exact ⟨ad, h1, h2.ext (Gh.addL_ext _ _ _)⟩
    hdom := fun q u hq => by rw [St.lab_hnd]; exact h.hdom q u hq
    bdom := fun q u hq => by rw [St.lab_box]; exact h.bdom q u hq
    hlabs := fun q r hq p hp => by
      rw [St.lab_hnd] at hq
      obtain ⟨m, n, hm, hn⟩ := h.hlabs q r hq p hp
      have : p.1 ≠ id := fun e => by rw [e, hid] at hm; cases hm
      exact ⟨m, n, by rw [slab _ this]; exact hm, hn⟩
    labs := fun b l hq => by
      rcases hq with hq | ⟨rfl, rfl⟩
      · rw [slab l (lne b l hq)]; exact h.labs b l hq
      · exact ⟨⟨true, 0, St.set_same _ _ _⟩, by simp⟩
    muts := fun b l n hq hn => by
      rcases hq with hq | ⟨rfl, rfl⟩
      · rw [slab l (lne b l hq)] at hn
        obtain ⟨p1, p2, p3, p4⟩ := h.muts b l n hq hn
        refine ⟨fun l' hl' => ?_, p2, p3, p4⟩
        rcases hl' with hl' | ⟨e, _⟩
        · exact p1 l' hl'
        · have := (h0.labs b l hq).2; omega
      · refine ⟨fun l' hl' => ?_, fun r ad ha => ?_, ⟨arr, ty, fr, push_new, hf⟩, fun hlt => by have := h0.size; omega⟩
        · rcases hl' with hl' | ⟨_, e⟩
          · have := (h0.labs _ l' hl').2; omega
          · exact e
        · obtain ⟨ro, ls, hb⟩ := (h0.bdom r ad ha).2
          obtain ⟨ad', ha', hrep⟩ := h0.boxes r ro ls hb
          have ha : g.bxa r = some ad := ha
          rw [ha] at ha'; cases ha'
          exact Nat.ne_of_lt hrep.lt
    rws := fun r ls ad hq ha => by
      rw [St.lab_box] at hq
      obtain ⟨p1, p2, p3, p4⟩ := h.rws r ls ad hq ha
      refine ⟨fun l hl => ?_, p2, p3, p4⟩
      rcases hl with hl | ⟨e, _⟩
      · exact p1 l hl
      · obtain ⟨_, _, q3, _⟩ := h0.rws r ls ad hq ha
        have := q3.lt; omega
    wins := fun q p lo sz hq => by rw [St.lab_win] at hq; exact (h.wins q p lo sz hq).ext (Gh.addL_ext _ _ _)
    pls := fun b l hq => by
      rcases hq with hq | ⟨rfl, rfl⟩
      · exact h.pls b l hq
      · exact ⟨fun e => (by rw [hp] at e; cases e), fun _ => h0.size⟩ }

/-- A new variable in memory. -/
def Gh.addB (g : Gh) (id : Nat) (ad : Addr) : Gh := { g with bxa := fun b => if b = id then some ad else g.bxa b }

theorem Gh.addB_ext {g : Gh} {id : Nat} (h : g.bxa id = none) (ad : Addr) : GhExt g (g.addB id ad) :=
  ⟨fun _ _ h => h, fun q u hq => by
    by_cases e : q = id
    · subst e; rw [h] at hq; cases hq
    · simp [Gh.addB, e, hq], fun _ _ h => h⟩

theorem Rel.newBox (h : Rel C g st a w) {id : Nat} (hid : st (.box id) = .no) (hp : C.Pb id = false) {ls : List Leaf} {arr : Array Value} (ty : TypeId) (hl : AllRep (LeafRep g) ls arr.toList) :
    Rel C (g.addB id ⟨w.heap.size, 0, none⟩) (st.set (.box id) (.bx false ls)) a { w with heap := w.heap.push (.cells arr ty) } := by
  have h0 := h
  replace h := h.alloc (.cells arr ty)
  have hg := h0.no_bx hid
  have ex := Gh.addB_ext hg ⟨w.heap.size, 0, none⟩
  have hal : ∀ q, Alive (st.set (.box id) (.bx false ls)) q ↔ Alive st q := fun q => by simp only [Alive, St.box_lab]
  have blt : ∀ r ad, g.bxa r = some ad → ad.block < w.heap.size := fun r ad ha => by
    obtain ⟨ro, ls, hb⟩ := (h0.bdom r ad ha).2
    obtain ⟨ad', ha', hrep⟩ := h0.boxes r ro ls hb
    rw [ha] at ha'; cases ha'
    exact hrep.lt
  exact { h with
    slots := fun n v' hn => by rw [St.box_slot] at hn; exact (h.slots n v' hn).ext ex
    hnds := fun q r' hq => by
      rw [St.box_hnd] at hq
      obtain ⟨u, h1, h2⟩ := h.hnds q r' hq
      exact ⟨u, h1, fun ha => h2 ((hal r').1 ha)⟩
    boxes := fun b ro ls' hq => by
      by_cases e : b = id
      · subst e; rw [St.set_same] at hq; cases hq
        refine ⟨⟨w.heap.size, 0, none⟩, by simp [Gh.addB], arr, ty, (0, 0), push_new, by have := hl.length; simp at this; simp; omega, fun j l hj => ?_⟩
        obtain ⟨v, hv, hr⟩ := hl.get j l hj
        exact ⟨v, by simpa using hv, LeafRep.ext ex hr⟩
      · rw [St.set_ne _ _ (by simpa using e)] at hq
        obtain ⟨ad, h1, h2⟩ := h.boxes b ro ls' hq
        exact ⟨ad, ex.bxa _ _ h1, h2.ext ex⟩
    hdom := fun q u hq => by rw [St.box_hnd]; exact h.hdom q u hq
    bdom := fun q u hq => by
      by_cases e : q = id
      · subst e
        have : u = ⟨w.heap.size, 0, none⟩ := by simp [Gh.addB] at hq; exact hq.symm
        subst this
        exact ⟨rfl, false, ls, St.set_same _ _ _⟩
      · simp only [Gh.addB, if_neg e] at hq
        rw [St.set_ne _ _ (by simpa using e)]; exact h.bdom q u hq
    hlabs := fun q r hq p hp => by rw [St.box_hnd] at hq; rw [St.box_lab]; exact h.hlabs q r hq p hp
    labs := fun b l hq => by rw [St.box_lab]; exact h.labs b l hq
    muts := fun b l n hq hn => by
      rw [St.box_lab] at hn
      obtain ⟨p1, p2, p3, p4⟩ := h.muts b l n hq hn
      refine ⟨p1, fun r ad ha => ?_, p3, p4⟩
      by_cases e : r = id
      · subst e
        have : ad = ⟨w.heap.size, 0, none⟩ := by simp [Gh.addB] at ha; exact ha.symm
        subst this
        have := (h0.labs b l hq).2
        simp only; omega
      · simp only [Gh.addB, if_neg e] at ha; exact p2 r ad ha
    rws := fun r ls' ad hq ha => by
      by_cases e : r = id
      · subst e
        have : ad = ⟨w.heap.size, 0, none⟩ := by simp [Gh.addB] at ha; exact ha.symm
        subst this
        refine ⟨fun l hl => ?_, fun r' ad' hne ha' => ?_, ⟨arr, ty, (0, 0), push_new, fun o _ => by simp⟩, fun hlt => ?_⟩
        · have := (h0.labs _ l hl).2; simp at this
        · simp only [Gh.addB, if_neg hne] at ha'
          have := blt r' ad' ha'; simp only; omega
        · have := h0.size; simp only at hlt; omega
      · rw [St.set_ne _ _ (by simpa using e)] at hq
        simp only [Gh.addB, if_neg e] at ha
        obtain ⟨p1, p2, p3, p4⟩ := h.rws r ls' ad hq ha
        refine ⟨p1, fun r' ad' hne ha' => ?_, p3, p4⟩
        by_cases e' : r' = id
        · subst e'
          have : ad' = ⟨w.heap.size, 0, none⟩ := by simp [Gh.addB] at ha'; exact ha'.symm
          subst this
          have := blt r ad ha; simp only; omega
        · simp only [Gh.addB, if_neg e'] at ha'; exact p2 r' ad' hne ha'
    wins := fun q p lo sz hq => by rw [St.box_win] at hq; exact (h.wins q p lo sz hq).ext ex
    nbs := fun q hq u hu => by
      by_cases e : q = id
      · subst e
        have : u = ⟨w.heap.size, 0, none⟩ := by simp [Gh.addB] at hu; exact hu.symm
        subst this
        exact h0.size
      · simp only [Gh.addB, if_neg e] at hu; exact h.nbs q hq u hu
    pbs := fun q hq u hu => by
      by_cases e : q = id
      · subst e; rw [hp] at hq; cases hq
      · simp only [Gh.addB, if_neg e] at hu; exact h.pbs q hq u hu }

/-- A handle is told to be the end of another one. -/
theorem Rel.setWin (h : Rel C g st a w) {id p lo sz : Nat} (hw : WinRep g id p lo sz) : Rel C g (st.set (.win id) (.wn p lo sz)) a w := by
  have hal : ∀ q, Alive (st.set (.win id) (.wn p lo sz)) q ↔ Alive st q := fun q => by simp only [Alive, St.win_lab]
  exact { h with
    slots := fun n v' hn => by rw [St.win_slot] at hn; exact h.slots n v' hn
    hnds := fun q r' hq => by
      rw [St.win_hnd] at hq
      obtain ⟨u, h1, h2⟩ := h.hnds q r' hq
      exact ⟨u, h1, fun hx => h2 ((hal r').1 hx)⟩
    boxes := fun b ro ls hq => by rw [St.win_box] at hq; exact h.boxes b ro ls hq
    hdom := fun q u hq => by rw [St.win_hnd]; exact h.hdom q u hq
    bdom := fun q u hq => by rw [St.win_box]; exact h.bdom q u hq
    hlabs := fun q r hq p hp => by rw [St.win_hnd] at hq; rw [St.win_lab]; exact h.hlabs q r hq p hp
    labs := fun b l hq => by rw [St.win_lab]; exact h.labs b l hq
    muts := fun b l n hq hn => by rw [St.win_lab] at hn; exact h.muts b l n hq hn
    rws := fun r ls ad hq ha => by rw [St.win_box] at hq; exact h.rws r ls ad hq ha
    wins := fun q p' lo' sz' hq => by
      by_cases e : q = id
      · subst e; rw [St.set_same] at hq; cases hq; exact hw
      · rw [St.set_ne _ _ (by simpa using e)] at hq; exact h.wins q p' lo' sz' hq }

end Go.Proofs.YtnnnpppodblblaaGreat.Ev
/-
What each operation does to the abstract state.
-/
namespace Go.Proofs.YtnnnpppodblblaaGreat.Ev
open Go

/-! ### types -/
inductive TI where
  | sc (t : Ty)
  | st (ls : List Ty) (fs : List (Nat × Nat × Nat))
  | sl (e : Nat) (t : Ty) (bytes : Nat)

abbrev Tab := List (Nat × TI)

def zeroVals : Ty → List Value
  | .unit => []
  | .int k => [.int k 0]
  | .bool => [.bool false]
  | .str => [.string ⟨#[]⟩]
  | .sl _ => [.slice none 0 0]
  | .pair a b => zeroVals a ++ zeroVals b

def TIOk (P : Program) (n : Nat) : TI → Prop
  | .sc (.int k) => P.underlying n = some (.int k) ∧ (P.info? n).map (fun i => (i.zero, i.size)) = some (some (.int k 0), 1)
  | .sc .bool => P.underlying n = some .bool ∧ (P.info? n).map (fun i => (i.zero, i.size)) = some (some (.bool false), 1)
  | .sc .str => P.underlying n = some .string ∧ (P.info? n).map (fun i => (i.zero, i.size)) = some (some (.string ⟨#[]⟩), 1)
  | .sc _ => False
  | .st ls fs => (∃ fields, P.underlying n = some (.struct fields) ∧ fields.toList.map (fun f => (f.offset, (P.info? f.type).map (·.size), f.type)) = fs.map (fun p => (p.1, some p.2.1, p.2.2))) ∧
      (P.info? n).map (fun i => (i.zero, i.size)) = some (some (.agg (zeroVals (Ty.of ls)).toArray), ls.length) ∧ (zeroVals (Ty.of ls)).length = ls.length ∧
      fs.all (fun p => decide (0 < p.2.1) && decide (p.1 + p.2.1 ≤ ls.length)) = true
  | .sl e t bytes => P.underlying n = some (.slice e) ∧ (P.info? n).map (·.size) = some 1 ∧
      (P.info? e).map (fun i => (i.zero.map Value.cells, i.size, i.bytes)) = some (some (zeroVals t).toArray, t.size, bytes) ∧ 0 < bytes

def TabOk (P : Program) : Tab → Prop
  | [] => True
  | p :: r => TIOk P p.1 p.2 ∧ TabOk P r

theorem TabOk.get {P : Program} : ∀ {tab : Tab}, TabOk P tab → ∀ {n : Nat} {ti : TI}, tab.lookup n = some ti → TIOk P n ti := by
  intro tab
  induction tab with
  | nil => intro _ n ti h; simp at h
  | cons p r ih =>
    intro h n ti hl
    obtain ⟨m, t⟩ := p
    simp only [List.lookup] at hl
    split at hl
    · rename_i e; simp at e; subst e; cases hl; exact h.1
    · exact ih h.2 hl

/-! ### helpers -/
variable {α : Type}

def zeroLeaf : Ty → List Leaf
  | .unit => []
  | .int k => [.sc (.int k 0)]
  | .bool => [.sc (.bool false)]
  | .str => [.sc (.str ⟨#[]⟩)]
  | .sl _ => [.nil]
  | .pair a b => zeroLeaf a ++ zeroLeaf b

/-- 'st' reads: a type's cells. -/
def cellsOf (tab : Tab) (t : Nat) : Option (List Ty × Bool) :=
  match tab.lookup t with
  | some (.sc t) => some ([t], false)
  | some (.st ls _) => some (ls, true)
  | some (.sl _ t _) => some ([.sl t], false)
  | none => none

def rdSlot (n : Nat) (k : SV → Acc α) : Acc α := .rd (.slot n) fun | .sv v => k v | _ => .fail

def opnd (x : Operand) (k : SV → Acc α) : Acc α :=
  match x with
  | .tmp t => rdSlot t k
  | .const (.int kd n) => k (.val (.leaf (.sc (.int kd n))))
  | .const (.bool b) => k (.val (.leaf (.sc (.bool b))))
  | .const (.string s) => k (.val (.leaf (.sc (.str s))))
  | .const (.slice none 0 0) => k (.val (.leaf .nil))
  | .const (.pointer none) => k (.val (.leaf .dead))
  | _ => .fail

def asSc (v : SV) (k : Sc → Acc α) : Acc α := match v with | .val (.leaf (.sc s)) => k s | _ => .fail
def asInt (v : SV) (k : Int → Acc α) : Acc α := match v with | .val (.leaf (.sc (.int _ n))) => k n | _ => .fail
def asBool (v : SV) (k : Bool → Acc α) : Acc α := match v with | .val (.leaf (.sc (.bool b))) => k b | _ => .fail
def leavesOf (v : SV) (k : List Leaf → Acc α) : Acc α := match v with | .val (.leaf l) => k [l] | .val (.agg ls) => k ls | _ => .fail
def oneLeaf (v : SV) (k : Leaf → Acc α) : Acc α := match v with | .val (.leaf l) => k l | _ => .fail
def mkVal (agg : Bool) (ls : List Leaf) (k : SV → Acc α) : Acc α :=
  if agg then k (.val (.agg ls)) else match ls with | [l] => k (.val (.leaf l)) | _ => .fail

/-- The slot that an operation writes (below the number of slots). -/
def put (nt : Nat) (d : Option Nat) (v : SV) : Acc Unit :=
  match d with
  | some d => if d < nt then .wr (.slot d) (.sv v) (.done ()) else .fail
  | none => .done ()

def chkAges (l : List (Nat × Nat)) (n : Acc α) : Acc α :=
  match l with
  | [] => n
  | p :: r => .rd (.lab p.1) fun | .ep _ m => (if m = p.2 then chkAges r n else .fail) | _ => .fail

def rdH (h : Nat) (k : HRec → Acc α) : Acc α := .rd (.hnd h) fun | .hr r => chkAges (r.spine ++ r.inner) (k r) | _ => .fail

/-- A slice's content. -/
def leafXs (l : Leaf) (e : Ty) (k : List e.den → List (Nat × Nat) → List (Nat × Nat) → Acc α) : Acc α :=
  match l with
  | .nil => k [] [] []
  | .sl h => rdH h fun r => if he : r.e = e then k (he ▸ r.xs) r.spine r.inner else .fail
  | _ => .fail

def mkH (id : Nat) (r : HRec) (n : Acc α) : Acc α := if id < 10000000 then .rd (.hnd id) fun | .no => .wr (.hnd id) (.hr r) n | _ => .fail else .fail
def mkL (id : Nat) (n : Acc α) : Acc α := if id < 10000000 then .rd (.lab id) fun | .no => .wr (.lab id) (.ep true 0) n | _ => .fail else .fail

/-- The data of cells; what they lead to. -/
def denOf (t : Ty) (ls : List Leaf) (k : t.den → List Leaf → List (Nat × Nat) → Acc α) : Acc α :=
  match t, ls with
  | .unit, ls => k () ls []
  | .int kd, .sc (.int kd' n) :: r => if kd = kd' then k n r [] else .fail
  | .bool, .sc (.bool b) :: r => k b r []
  | .str, .sc (.str s) :: r => k s r []
  | .pair a b, ls => denOf a ls fun x r1 l1 => denOf b r1 fun y r2 l2 => k (x, y) r2 (l1 ++ l2)
  | .sl e, l :: r => leafXs l e fun xs s i => k xs r (s ++ i)
  | _, _ => .fail

/-- Cells of data: what is a slice gets a handle, from id on, that leads to what lb says. -/
def ldLeaves (lds : List LD) (id : Nat) (lb : List (Nat × Nat)) (k : List Leaf → Acc α) : Acc α :=
  match lds with
  | [] => k []
  | .sc s :: r => ldLeaves r id lb fun ls => k (.sc s :: ls)
  | .sl e xs :: r => mkH id ⟨e, lb, if e.plain = true then [] else lb, xs⟩ (ldLeaves r (id + 1) lb fun ls => k (.sl id :: ls))

/-- The labels of a row get older: whoever else names them is dead. All of them must be the call's own. -/
def bump (l : List (Nat × Nat)) (k : List (Nat × Nat) → Acc α) : Acc α :=
  match l with
  | [] => k []
  | p :: r => .rd (.lab p.1) fun | .ep true m => (if m = p.2 ∧ (r.all fun q => q.1 != p.1) = true then .wr (.lab p.1) (.ep true (m + 1)) (bump r fun r' => k ((p.1, m + 1) :: r')) else .fail) | _ => .fail

def apartL (a b : List (Nat × Nat)) : Bool := a.all fun p => b.all fun q => p.1 != q.1

/-! ### numbers, strings -/
def intBin (op : BinOp) (kd : IntKind) (a b : Int) (k : Sc → Acc α) : Acc α :=
  match op with
  | .add => k (.int kd (kd.wrap (a + b)))
  | .sub => k (.int kd (kd.wrap (a - b)))
  | .mul => k (.int kd (kd.wrap (a * b)))
  | .quo => .br (b == 0) .fail (k (.int kd (kd.wrap (a.tdiv b))))
  | .rem => .br (b == 0) .fail (k (.int kd (a.tmod b)))
  | .and => k (.int kd (kd.wrap (BitVec.ofInt kd.bits a &&& BitVec.ofInt kd.bits b).toNat))
  | .or => k (.int kd (kd.wrap (BitVec.ofInt kd.bits a ||| BitVec.ofInt kd.bits b).toNat))
  | .xor => k (.int kd (kd.wrap (BitVec.ofInt kd.bits a ^^^ BitVec.ofInt kd.bits b).toNat))
  | .eql => k (.bool (a == b))
  | .neq => k (.bool (a != b))
  | .lss => k (.bool (decide (a < b)))
  | .leq => k (.bool (decide (a ≤ b)))
  | .gtr => k (.bool (decide (a > b)))
  | .geq => k (.bool (decide (a ≥ b)))
  | _ => .fail

def strBin (op : BinOp) (a b : ByteArray) (k : Sc → Acc α) : Acc α :=
  match op with
  | .add => .br (decide (a.size + b.size ≤ 9223372036854775807)) (k (.str (a ++ b))) .fail
  | .eql => k (.bool (a.toList == b.toList))
  | .neq => k (.bool (!(a.toList == b.toList)))
  | .lss => k (.bool (Op.bytesLess a.toList b.toList))
  | .leq => k (.bool (Op.bytesLess a.toList b.toList || a.toList == b.toList))
  | .gtr => k (.bool (!(Op.bytesLess a.toList b.toList || a.toList == b.toList)))
  | .geq => k (.bool (!Op.bytesLess a.toList b.toList))
  | _ => .fail

def scEq : Sc → Sc → Option Bool
  | .int k a, .int k' b => if k = k' then some (a == b) else none
  | .bool a, .bool b => some (a == b)
  | .str a, .str b => some (a.toList == b.toList)
  | _, _ => none

/-- Structs of scalars, compared cell by cell. -/
def leavesEq : List Leaf → List Leaf → Option Bool
  | [], [] => some true
  | .sc a :: r, .sc b :: s => (scEq a b).bind fun x => (leavesEq r s).map fun y => x && y
  | _, _ => none

def binAcc (tab : Tab) (op : BinOp) (xt : Nat) (x y : SV) (k : SV → Acc α) : Acc α :=
  match x, y with
  | .val (.leaf (.sc (.int kd a))), .val (.leaf (.sc (.int kd' b))) =>
    match op with
    | .shl => .br (decide (b < 0)) .fail (k (.val (.leaf (.sc (.int kd (kd.wrap (a * 2 ^ min b.toNat kd.bits)))))))
    | .shr => .br (decide (b < 0)) .fail (k (.val (.leaf (.sc (.int kd (a.fdiv (2 ^ min b.toNat kd.bits)))))))
    | _ => if kd = kd' then intBin op kd a b fun s => k (.val (.leaf (.sc s))) else .fail
  | .val (.leaf (.sc (.str a))), .val (.leaf (.sc (.str b))) => strBin op a b fun s => k (.val (.leaf (.sc s)))
  | .val (.leaf (.sc (.bool a))), .val (.leaf (.sc (.bool b))) =>
    match tab.lookup xt, op with
    | some (.sc .bool), .eql => k (.val (.leaf (.sc (.bool (a == b)))))
    | some (.sc .bool), .neq => k (.val (.leaf (.sc (.bool (!(a == b))))))
    | _, _ => .fail
  | _, _ => .fail

def unAcc (op : UnOp) (x : SV) (k : SV → Acc α) : Acc α :=
  match op, x with
  | .neg, .val (.leaf (.sc (.int kd n))) => k (.val (.leaf (.sc (.int kd (kd.wrap (0 - n))))))
  | .not, .val (.leaf (.sc (.bool b))) => k (.val (.leaf (.sc (.bool (!b)))))
  | _, _ => .fail

def bytesL (s : ByteArray) : List Int := s.data.toList.map fun b => (b.toNat : Int)
def byteAt (s : ByteArray) (i : Int) : Int := ((s.data.toList.getD i.toNat 0).toNat : Int)

/-- Bounds of a cut of n. -/
def cutB (n : Nat) (lo hi : Option Int) (k : Nat → Nat → Acc α) : Acc α :=
  let h : Int := match hi with | some h => h | none => n
  let l : Int := match lo with | some l => l | none => 0
  .br ((match hi with | some h => decide (0 ≤ h) && decide (h ≤ (n : Int)) | none => true) && (match lo with | some l => decide (0 ≤ l) && decide (l ≤ h) | none => true)) (k l.toNat h.toNat) .fail

def optInt (x : Option Operand) (k : Option Int → Acc α) : Acc α :=
  match x with
  | none => k none
  | some x => opnd x fun v => asInt v fun n => k (some n)

/-! ### structs -/
/-- The parts of a struct, each in its place. -/
def fillAcc (fs : List (Nat × Nat × Nat)) (ps : List (Nat × Operand)) (ls : List Leaf) (k : List Leaf → Acc α) : Acc α :=
  match ps with
  | [] => k ls
  | (i, x) :: r => opnd x fun v => leavesOf v fun vs =>
    match fs[i]? with
    | some (off, size, _) => if vs.length = size ∧ off + size ≤ ls.length then fillAcc fs r (ls.take off ++ vs ++ ls.drop (off + size)) k else .fail
    | none => .fail

/-- The elements of a slice that is written out. -/
def elemsAcc (t : Ty) (i : Nat) (ps : List (Nat × Operand)) (k : List t.den → List (Nat × Nat) → Acc α) : Acc α :=
  match ps with
  | [] => k [] []
  | (j, x) :: r => if j = i then opnd x fun v => leavesOf v fun vs => denOf t vs fun y rest l1 => (match rest with | [] => elemsAcc t (i + 1) r fun ys l2 => k (y :: ys) (l1 ++ l2) | _ => .fail) else .fail

def loadAcc (tab : Tab) (nt : Nat) (d : Option Nat) (t : Nat) (x : SV) : Acc Unit :=
  match cellsOf tab t, x with
  | some (ls, agg), .ptr b off => .rd (.box b) fun
    | .bx _ cs => let vs := (cs.drop off).take ls.length; if vs.length = ls.length then mkVal agg vs (put nt d) else .fail
    | _ => .fail
  | some (ls, agg), .eptr h sz i off => rdH h fun r =>
    if r.e.size = sz then
      let vs := ((flat r.e (r.xs.getD i.toNat r.e.zero)).drop off).take ls.length
      if vs.length = ls.length then ldLeaves vs (64 * d.getD 0) r.inner fun lv => mkVal agg lv (put nt d) else .fail
    else .fail
  | _, _ => .fail

def storeAcc (tab : Tab) (t : Nat) (x y : SV) : Acc Unit :=
  match cellsOf tab t, x with
  | some (ls, _), .ptr b off => leavesOf y fun vs => .rd (.box b) fun
    | .bx false cs => if vs.length = ls.length ∧ off + ls.length ≤ cs.length then .wr (.box b) (.bx false (cs.take off ++ vs ++ cs.drop (off + ls.length))) (.done ()) else .fail
    | _ => .fail
  | some (ls, _), .eptr h sz i off => leavesOf y fun vs => denOf (Ty.of ls) vs fun z rest lbl =>
    match rest with
    | [] => rdH h fun r =>
      if r.e.size = sz ∧ off + ls.length ≤ sz ∧ apartL r.spine r.inner = true then
        let old := flat r.e (r.xs.getD i.toNat r.e.zero)
        match unflat r.e (old.take off ++ flat (Ty.of ls) z ++ old.drop (off + ls.length)) with
        | some (x', []) => bump r.spine fun sp => if apartL sp lbl = true then .wr (.hnd h) (.hr ⟨r.e, sp, r.inner ++ lbl, r.xs.set i.toNat x'⟩) (.done ()) else .fail
        | _ => .fail
      else .fail
    | _ => .fail
  | _, _ => .fail

/-! ### append -/
def appendAcc (e : Ty) (bytes : Nat) (nt : Nat) (d : Nat) (s : Leaf) (ys : List e.den) (yin : List (Nat × Nat)) : Acc Unit :=
  match s with
  | .nil => .br (decide (ys.length * bytes ≤ 140737488355328))
      (mkL (64 * d) (mkH (64 * d) ⟨e, [(64 * d, 0)], yin, ys⟩ (put nt (some d) (.val (.leaf (.sl (64 * d))))))) .fail
  | .sl h => rdH h fun r => if he : r.e = e then
      if apartL r.spine (r.inner ++ yin) = true then
        .br (decide ((r.xs.length + ys.length) * bytes ≤ 140737488355328))
          (bump r.spine fun sp => mkL (64 * d) (mkH (64 * d) ⟨e, sp ++ [(64 * d, 0)], r.inner ++ yin, (he ▸ r.xs : List e.den) ++ ys⟩ (put nt (some d) (.val (.leaf (.sl (64 * d))))))) .fail
      else .fail
    else .fail
  | _ => .fail

def minMax (mx : Bool) : List Sc → Option Sc
  | [.int k a, .int k' b] => if k = k' then some (.int k (if mx then (if b > a then b else a) else (if b < a then b else a))) else none
  | [.int k a, .int k' b, .int k'' c] => if k = k' ∧ k = k'' then
      let m := if mx then (if b > a then b else a) else (if b < a then b else a)
      some (.int k (if mx then (if c > m then c else m) else (if c < m then c else m))) else none
  | _ => none

def scArgs (xs : List Operand) (k : List Sc → Acc α) : Acc α :=
  match xs with
  | [] => k []
  | x :: r => opnd x fun v => asSc v fun s => scArgs r fun ss => k (s :: ss)

def builtinAcc (tab : Tab) (nt : Nat) (d : Option Nat) (b : Builtin) (xs : List Operand) (ts : List Nat) : Acc Unit :=
  match b, xs, ts with
  | .len, [x], [t] => opnd x fun v =>
    match tab.lookup t, v with
    | some (.sc .str), .val (.leaf (.sc (.str s))) => put nt d (.val (.leaf (.sc (.int .i64 (s.size : Int)))))
    | some (.sl _ e _), .val (.leaf l) => leafXs l e fun xs _ _ => put nt d (.val (.leaf (.sc (.int .i64 (xs.length : Int)))))
    | _, _ => .fail
  | .append, [x, y], [t, u] => opnd x fun vx => oneLeaf vx fun lx => opnd y fun vy => oneLeaf vy fun ly =>
    match tab.lookup t, tab.lookup u, d with
    | some (.sl _ e bytes), some (.sl _ e' _), some d => if e' = e then leafXs ly e fun ys _ yin => appendAcc e bytes nt d lx ys yin else .fail
    | _, _, _ => .fail
  | .min, xs, _ => scArgs xs fun ss => match minMax false ss with | some s => put nt d (.val (.leaf (.sc s))) | none => .fail
  | .max, xs, _ => scArgs xs fun ss => match minMax true ss with | some s => put nt d (.val (.leaf (.sc s))) | none => .fail
  | _, _, _ => .fail

end Go.Proofs.YtnnnpppodblblaaGreat.Ev
/-
Operations that touch slots alone.
-/
namespace Go.Proofs.YtnnnpppodblblaaGreat.Ev
open Go

variable {P : Program} {C : Ctx} {g : Gh} {st st' : St} {a : Act} {w : World} {α : Type}

theorem eval_tmp (a : Act) (t : Nat) : a.eval (.tmp t) = a.tmps.getD t undef := rfl

theorem rep_sc (g : Gh) (s : Sc) : SVRep g (.val (.leaf (.sc s))) s.val := (rfl : s.val = s.val)
theorem rep_int (g : Gh) (k : IntKind) (n : Int) : SVRep g (.val (.leaf (.sc (.int k n)))) (.int k n) := (rfl : Value.int k n = Value.int k n)
theorem rep_bool (g : Gh) (b : Bool) : SVRep g (.val (.leaf (.sc (.bool b)))) (.bool b) := (rfl : Value.bool b = Value.bool b)
theorem rep_str (g : Gh) (s : ByteArray) : SVRep g (.val (.leaf (.sc (.str s)))) (.string s) := (rfl : Value.string s = Value.string s)
theorem rep_nil (g : Gh) : SVRep g (.val (.leaf .nil)) (.slice none 0 0) := (rfl : Value.slice none 0 0 = Value.slice none 0 0)

theorem opnd_run {x : Operand} {k : SV → Acc α} {p : α × St} (h : Rel C g st a w) (hr : (opnd x k).run st = some p) :
    ∃ v, SVRep g v (a.eval x) ∧ (k v).run st = some p := by
  unfold opnd at hr
  split at hr
  · rename_i t
    simp only [rdSlot, Acc.run] at hr
    split at hr
    · rename_i v hv; exact ⟨v, h.slots t v hv, hr⟩
    · simp [Acc.run] at hr
  · exact ⟨_, rep_int g _ _, hr⟩
  · exact ⟨_, rep_bool g _, hr⟩
  · exact ⟨_, rep_str g _, hr⟩
  · exact ⟨_, rep_nil g, hr⟩
  · exact ⟨.val (.leaf .dead), rfl, hr⟩
  · simp [Acc.run] at hr

theorem asSc_run {v : SV} {k : Sc → Acc α} {p : α × St} {u : Value} (hv : SVRep g v u) (hr : (asSc v k).run st = some p) :
    ∃ s, u = s.val ∧ (k s).run st = some p := by
  unfold asSc at hr
  split at hr
  · exact ⟨_, hv, hr⟩
  · simp [Acc.run] at hr

theorem asInt_run {v : SV} {k : Int → Acc α} {p : α × St} {u : Value} (hv : SVRep g v u) (hr : (asInt v k).run st = some p) :
    ∃ kd n, u = .int kd n ∧ (k n).run st = some p := by
  unfold asInt at hr
  split at hr
  · exact ⟨_, _, hv, hr⟩
  · simp [Acc.run] at hr

theorem asBool_run {v : SV} {k : Bool → Acc α} {p : α × St} {u : Value} (hv : SVRep g v u) (hr : (asBool v k).run st = some p) :
    ∃ b, u = .bool b ∧ (k b).run st = some p := by
  unfold asBool at hr
  split at hr
  · exact ⟨_, hv, hr⟩
  · simp [Acc.run] at hr

theorem oneLeaf_run {v : SV} {k : Leaf → Acc α} {p : α × St} {u : Value} (hv : SVRep g v u) (hr : (oneLeaf v k).run st = some p) :
    ∃ l, LeafRep g l u ∧ (k l).run st = some p := by
  unfold oneLeaf at hr
  split at hr
  · exact ⟨_, hv, hr⟩
  · simp [Acc.run] at hr

theorem cells_one {u : Value} (h : u.oneCell = true) : u.cells = #[u] := by cases u <;> first | rfl | simp [Value.oneCell] at h

theorem leavesOf_run {v : SV} {k : List Leaf → Acc α} {p : α × St} {u : Value} (hv : SVRep g v u) (hr : (leavesOf v k).run st = some p) :
    ∃ ls, AllRep (LeafRep g) ls u.cells.toList ∧ (k ls).run st = some p := by
  unfold leavesOf at hr
  split at hr
  · refine ⟨_, ?_, hr⟩
    rw [cells_one (LeafRep.one hv)]; exact ⟨u, [], rfl, hv, rfl⟩
  · obtain ⟨cs, rfl, h⟩ := hv
    exact ⟨_, h, hr⟩
  · simp [Acc.run] at hr

/-- What is needed of an operation. -/
def Sim (P : Program) (C : Ctx) (o : Oper) (acc : Acc Unit) : Prop :=
  ∀ (g : Gh) (st : St) (a : Act) (w : World) (st' : St), Rel C g st a w → acc.run st = some ((), st') →
    ∀ (K : Act → World → Prop) (Q : Exit → Act → World → Prop), (∀ g' a' w', Rel C g' st' a' w' → K a' w') → o.wp P a w K Q

theorem wp_value {o : Oper} {v : Value} {w' : World} {K : Act → World → Prop} {Q : Exit → Act → World → Prop}
    (h : (execOp a.eval o).run P w = .ok (.value v) w') (hk : K (a.put o.dst v) w') : o.wp P a w K Q := by
  simp only [Oper.wp, Oper.upon, h]; exact hk

theorem wp_skipv {o : Oper} {w' : World} {K : Act → World → Prop} {Q : Exit → Act → World → Prop}
    (h : (execOp a.eval o).run P w = .ok .skip w') (hk : K (a.put o.dst undef) w') : o.wp P a w K Q := by
  simp only [Oper.wp, Oper.upon, h]; exact hk

theorem put_run {nt : Nat} {d : Option Nat} {v : SV} {u : Value} (h : Rel C g st a w) (hn : nt = C.nt) (hv : SVRep g v u)
    (hr : (put nt d v).run st = some ((), st')) : Rel C g st' (a.put d u) w := by
  unfold put at hr
  split at hr
  · rename_i d'
    split at hr
    · simp only [Acc.run, Option.some.injEq, Prod.mk.injEq, true_and] at hr
      subst hr
      exact h.put (by omega) hv
    · simp [Acc.run] at hr
  · simp only [Acc.run, Option.some.injEq, Prod.mk.injEq, true_and] at hr
    subst hr; exact h

theorem put_none_run {v : SV} (h : Rel C g st a w) (nt : Nat) (hr : (put nt none v).run st = some ((), st')) (u : Value) : Rel C g st' (a.put none u) w := by
  simp only [put, Acc.run, Option.some.injEq, Prod.mk.injEq, true_and] at hr
  subst hr; exact h

def moveAcc (nt : Nat) (d : Option Nat) (x : Operand) : Acc Unit := opnd x fun v => put nt d v

theorem move_sim {o : Oper} {x : Operand} (ho : o.op = .move x ∨ o.op = .assign x) {nt : Nat} (hn : nt = C.nt) : Sim P C o (moveAcc nt o.dst x) := by
  intro g st a w st' h hr K Q hk
  replace hr := opnd_run h hr; obtain ⟨v, hv, hr⟩ := hr
  refine wp_value (v := a.eval x) (w' := w) ?_ (hk g _ _ (put_run h hn hv hr))
  rcases ho with ho | ho <;> simp [execOp, ho]

def nilAcc (nt : Nat) (d : Option Nat) (x : Operand) : Acc Unit :=
  opnd x fun v => match v with | .ptr b o => put nt d (.ptr b o) | .eptr h s i o => put nt d (.eptr h s i o) | _ => .fail

theorem nil_sim {o : Oper} {x : Operand} (ho : o.op = .nilCheck x) {nt : Nat} (hn : nt = C.nt) : Sim P C o (nilAcc nt o.dst x) := by
  intro g st a w st' h hr K Q hk
  replace hr := opnd_run h hr; obtain ⟨v, hv, hr⟩ := hr
  split at hr
  · rename_i b off
    refine wp_value (v := a.eval x) (w' := w) ?_ (hk g _ _ (put_run h hn hv hr))
    obtain ⟨_, _, hv⟩ := hv
    simp [execOp, ho, hv]
  · rename_i q s i off
    refine wp_value (v := a.eval x) (w' := w) ?_ (hk g _ _ (put_run h hn hv hr))
    obtain ⟨_, _, _, _, _, _, _, hv⟩ := hv
    simp [execOp, ho, hv]
  · simp [Acc.run] at hr

def pickAcc (nt : Nat) (d : Option Nat) (c x y : Operand) : Acc Unit :=
  opnd c fun v => asBool v fun b => .br b (moveAcc nt d x) (moveAcc nt d y)

theorem pick_sim {o : Oper} {c x y : Operand} (ho : o.op = .pick c x y) {nt : Nat} (hn : nt = C.nt) : Sim P C o (pickAcc nt o.dst c x y) := by
  intro g st a w st' h hr K Q hk
  replace hr := opnd_run h hr; obtain ⟨v, hv, hr⟩ := hr
  replace hr := asBool_run hv hr; obtain ⟨b, hb, hr⟩ := hr
  cases b
  · simp only [Acc.run, cond_false] at hr
    replace hr := opnd_run h hr; obtain ⟨v, hv, hr⟩ := hr
    exact wp_value (v := a.eval y) (w' := w) (by simp [execOp, ho, hb, Go.asBool]) (hk g _ _ (put_run h hn hv hr))
  · simp only [Acc.run, cond_true] at hr
    replace hr := opnd_run h hr; obtain ⟨v, hv, hr⟩ := hr
    exact wp_value (v := a.eval x) (w' := w) (by simp [execOp, ho, hb, Go.asBool]) (hk g _ _ (put_run h hn hv hr))

def unAcc' (nt : Nat) (d : Option Nat) (op : UnOp) (x : Operand) : Acc Unit := opnd x fun v => unAcc op v fun u => put nt d u

theorem un_sim {o : Oper} {op : UnOp} {t : Nat} {x : Operand} (ho : o.op = .unOp op t x) {nt : Nat} (hn : nt = C.nt) : Sim P C o (unAcc' nt o.dst op x) := by
  intro g st a w st' h hr K Q hk
  replace hr := opnd_run h hr; obtain ⟨v, hv, hr⟩ := hr
  unfold unAcc at hr
  split at hr
  · rename_i kd n
    simp only [SVRep, CVRep, LeafRep, Sc.val] at hv
    exact wp_value (v := .int kd (kd.wrap (0 - n))) (w' := w) (by simp [execOp, ho, hv, Op.unary, Op.intArith]) (hk g _ _ (put_run h hn (rep_int g _ _) hr))
  · rename_i b
    simp only [SVRep, CVRep, LeafRep, Sc.val] at hv
    exact wp_value (v := .bool (!b)) (w' := w) (by simp [execOp, ho, hv, Op.unary]) (hk g _ _ (put_run h hn (rep_bool g _) hr))
  · simp [Acc.run] at hr

end Go.Proofs.YtnnnpppodblblaaGreat.Ev
/-
Numbers, strings, conversions, fields, extracts.
-/
namespace Go.Proofs.YtnnnpppodblblaaGreat.Ev
open Go


variable {P : Program} {C : Ctx} {g : Gh} {st st' : St} {a : Act} {w : World} {α : Type} {tab : Tab}

theorem run_eqGuard_int (op : BinOp) (t : TypeId) (x y : Operand) (k k' : IntKind) (m n : Int) : (eqGuard op t x y (.int k m) (.int k' n)).run P w = .ok () w := by
  cases op <;> rfl
theorem run_eqGuard_str (op : BinOp) (t : TypeId) (x y : Operand) (m n : ByteArray) : (eqGuard op t x y (.string m) (.string n)).run P w = .ok () w := by
  cases op <;> rfl
theorem run_eqGuard_bool (op : BinOp) (t : TypeId) (x y : Operand) (m n : Bool) : (eqGuard op t x y (.bool m) (.bool n)).run P w = .ok () w := by
  cases op <;> rfl

theorem intBin_run {op : BinOp} {kd : IntKind} {m n : Int} {k : Sc → Acc α} {p : α × St} (hr : (intBin op kd m n k).run st = some p) (t : TypeId) :
    ∃ s, (binOp op t (.int kd m) (.int kd n)).run P w = .ok s.val w ∧ (k s).run st = some p := by
  cases op <;> simp only [intBin] at hr
  case quo =>
    simp only [Acc.run] at hr
    cases hb : (n == 0) <;> rw [hb] at hr <;> simp only [cond_true, cond_false, Acc.run] at hr
    · exact ⟨_, by simp [binOp, Op.intDiv, (by simpa using hb : ¬ n = 0), Sc.val], hr⟩
    · cases hr
  case rem =>
    simp only [Acc.run] at hr
    cases hb : (n == 0) <;> rw [hb] at hr <;> simp only [cond_true, cond_false, Acc.run] at hr
    · exact ⟨_, by simp [binOp, Op.intDiv, (by simpa using hb : ¬ n = 0), Sc.val], hr⟩
    · cases hr
  all_goals first
    | (simp [Acc.run] at hr; done)
    | exact ⟨_, by simp [binOp, Op.intArith, Op.intBits, Op.intCmp, Sc.val], hr⟩

theorem strBin_run {op : BinOp} {m n : ByteArray} {k : Sc → Acc α} {p : α × St} (hr : (strBin op m n k).run st = some p) (t : TypeId) :
    ∃ s, (binOp op t (.string m) (.string n)).run P w = .ok s.val w ∧ (k s).run st = some p := by
  cases op <;> simp only [strBin] at hr
  case add =>
    simp only [Acc.run] at hr
    cases hb : decide (m.size + n.size ≤ 9223372036854775807) <;> rw [hb] at hr <;> simp only [cond_true, cond_false, Acc.run] at hr
    · cases hr
    · have hb' := of_decide_eq_true hb
      refine ⟨_, ?_, hr⟩
      have : ¬ (((m.size + n.size : Nat) : Int) > IntKind.i64.max) := by
        have : IntKind.i64.max = 9223372036854775807 := by decide
        omega
      simp only [binOp, Op.stringOp, if_neg this, Sc.val]
      rfl
  all_goals first
    | (simp [Acc.run] at hr; done)
    | exact ⟨_, by simp [binOp, Op.stringOp, Sc.val], hr⟩

theorem run_equalIn_bool {t : Nat} (hu : P.underlying t = some .bool) (d : Nat) (m n : Bool) : (Op.equalIn (d + 1) t (.bool m) (.bool n)).run P w = .ok (m == n) w := by
  simp [Op.equalIn, underlying, hu]
theorem run_equal_bool {t : Nat} (hu : P.underlying t = some .bool) (m n : Bool) : (Op.equal t (.bool m) (.bool n)).run P w = .ok (m == n) w := run_equalIn_bool hu 9999 m n

theorem binAcc_run {op : BinOp} {t : Nat} {x y : SV} {k : SV → Acc α} {p : α × St} {u v : Value} (ht : TabOk P tab) (hx : SVRep g x u) (hy : SVRep g y v)
    (hr : (binAcc tab op t x y k).run st = some p) (ox oy : Operand) :
    ∃ (z : SV) (r : Value), SVRep g z r ∧ (do eqGuard op t ox oy u v; binOp op t u v : Sem Value).run P w = .ok r w ∧ (k z).run st = some p := by
  unfold binAcc at hr
  split at hr
  · rename_i kd m kd' n
    simp only [SVRep, CVRep, LeafRep, Sc.val] at hx hy
    subst hx; subst hy
    split at hr
    · simp only [Acc.run] at hr
      cases hb : decide (n < 0) <;> rw [hb] at hr <;> simp only [cond_true, cond_false, Acc.run] at hr
      · refine ⟨_, _, rep_int g kd _, ?_, hr⟩
        simp [run_eqGuard_int, binOp, Op.shift, (by simpa using hb : ¬ n < 0)]
      · cases hr
    · simp only [Acc.run] at hr
      cases hb : decide (n < 0) <;> rw [hb] at hr <;> simp only [cond_true, cond_false, Acc.run] at hr
      · refine ⟨_, _, rep_int g kd _, ?_, hr⟩
        simp [run_eqGuard_int, binOp, Op.shift, (by simpa using hb : ¬ n < 0)]
      · cases hr
    · split at hr
      · rename_i hkk; subst hkk
        replace hr := intBin_run (P := P) (w := w) hr t; obtain ⟨s, hs, hr⟩ := hr
        exact ⟨_, _, rep_sc g s, by simp [run_eqGuard_int, hs], hr⟩
      · simp [Acc.run] at hr
  · rename_i m n
    simp only [SVRep, CVRep, LeafRep, Sc.val] at hx hy
    subst hx; subst hy
    replace hr := strBin_run (P := P) (w := w) hr t; obtain ⟨s, hs, hr⟩ := hr
    exact ⟨_, _, rep_sc g s, by simp [run_eqGuard_str, hs], hr⟩
  · rename_i m n
    simp only [SVRep, CVRep, LeafRep, Sc.val] at hx hy
    subst hx; subst hy
    split at hr
    · rename_i hl
      have hu := (ht.get hl).1
      refine ⟨_, _, rep_bool g _, ?_, hr⟩
      simp [run_eqGuard_bool, binOp, run_equal_bool hu]
    · rename_i hl
      have hu := (ht.get hl).1
      refine ⟨_, _, rep_bool g _, ?_, hr⟩
      simp [run_eqGuard_bool, binOp, run_equal_bool hu]
    · simp [Acc.run] at hr
  · simp [Acc.run] at hr

def binAcc' (tab : Tab) (nt : Nat) (d : Option Nat) (op : BinOp) (t : Nat) (x y : Operand) : Acc Unit :=
  opnd x fun u => opnd y fun v => binAcc tab op t u v fun z => put nt d z

theorem bin_sim {o : Oper} {op : BinOp} {t t' : Nat} {x y : Operand} (ho : o.op = .binOp op t x y t') (ht : TabOk P tab) {nt : Nat} (hn : nt = C.nt) :
    Sim P C o (binAcc' tab nt o.dst op t x y) := by
  intro g st a w st' h hr K Q hk
  replace hr := opnd_run h hr; obtain ⟨u, hu, hr⟩ := hr
  replace hr := opnd_run h hr; obtain ⟨v, hv, hr⟩ := hr
  replace hr := binAcc_run (w := w) ht hu hv hr x y; obtain ⟨z, r, hz, hrun, hr⟩ := hr
  refine wp_value (v := r) (w' := w) ?_ (hk g _ _ (put_run h hn hz hr))
  simp only [execOp, ho]
  simp only [Sem.run_bind] at hrun ⊢
  simp [hrun]

/-! ### conversions -/
def convAcc (tab : Tab) (nt : Nat) (d : Option Nat) (src dst : Nat) (x : Operand) : Acc Unit :=
  opnd x fun v =>
    match tab.lookup src, tab.lookup dst, v with
    | some (.sc _), some (.sc (.int k)), .val (.leaf (.sc (.int _ n))) => put nt d (.val (.leaf (.sc (.int k (k.wrap n)))))
    | some (.sc _), some (.sc .str), .val (.leaf (.sc (.str s))) => put nt d (.val (.leaf (.sc (.str s))))
    | _, _, _ => .fail

theorem sc_desc {n : Nat} {t : Ty} (h : TIOk P n (.sc t)) : ∃ d, P.underlying n = some d ∧ ((∃ k, t = .int k ∧ d = .int k) ∨ (t = .bool ∧ d = .bool) ∨ (t = .str ∧ d = .string)) := by
  cases t <;> simp only [TIOk] at h
  case int k => exact ⟨_, h.1, .inl ⟨k, rfl, rfl⟩⟩
  case bool => exact ⟨_, h.1, .inr (.inl ⟨rfl, rfl⟩)⟩
  case str => exact ⟨_, h.1, .inr (.inr ⟨rfl, rfl⟩)⟩

theorem conv_sim {o : Oper} {s t : Nat} {x : Operand} (ho : o.op = .convert s t x) (ht : TabOk P tab) {nt : Nat} (hn : nt = C.nt) :
    Sim P C o (convAcc tab nt o.dst s t x) := by
  intro g st a w st' h hr K Q hk
  replace hr := opnd_run h hr; obtain ⟨u, hu, hr⟩ := hr
  split at hr
  · rename_i ts k _ n hs hd
    simp only [SVRep, CVRep, LeafRep, Sc.val] at hu
    obtain ⟨d, h1, _⟩ := sc_desc (ht.get hs)
    have h2 := (ht.get hd).1
    refine wp_value (v := .int k (k.wrap n)) (w' := w) ?_ (hk g _ _ (put_run h hn (rep_int g _ _) hr))
    cases d <;> simp [execOp, ho, hu, convert, underlying, h1, h2, Conv.intToInt]
  · rename_i ts b hs hd
    simp only [SVRep, CVRep, LeafRep, Sc.val] at hu
    obtain ⟨d, h1, hd1⟩ := sc_desc (ht.get hs)
    have h2 := (ht.get hd).1
    refine wp_value (v := .string b) (w' := w) ?_ (hk g _ _ (put_run h hn (rep_str g _) hr))
    rcases hd1 with ⟨k, _, rfl⟩ | ⟨_, rfl⟩ | ⟨_, rfl⟩ <;> simp [execOp, ho, hu, convert, underlying, h1, h2]
  · simp [Acc.run] at hr

/-! ### a string's bytes and cuts -/
def indexAcc (tab : Tab) (nt : Nat) (d : Option Nat) (t : Nat) (x i : Operand) : Acc Unit :=
  opnd x fun v => opnd i fun vi => asInt vi fun n =>
    match tab.lookup t, v with
    | some (.sc .str), .val (.leaf (.sc (.str s))) => .br (decide (0 ≤ n) && decide (n < (s.size : Int))) (put nt d (.val (.leaf (.sc (.int .u8 (byteAt s n)))))) .fail
    | _, _ => .fail

theorem index_sim {o : Oper} {t : Nat} {x i : Operand} (ho : o.op = .index t x i) (ht : TabOk P tab) {nt : Nat} (hn : nt = C.nt) :
    Sim P C o (indexAcc tab nt o.dst t x i) := by
  intro g st a w st' h hr K Q hk
  replace hr := opnd_run h hr; obtain ⟨u, hu, hr⟩ := hr
  replace hr := opnd_run h hr; obtain ⟨v, hv, hr⟩ := hr
  replace hr := asInt_run hv hr; obtain ⟨kd, n, hi, hr⟩ := hr
  split at hr
  · rename_i s hl
    simp only [SVRep, CVRep, LeafRep, Sc.val] at hu
    have h2 := (ht.get hl).1
    simp only [Acc.run] at hr
    cases hb : (decide (0 ≤ n) && decide (n < (s.size : Int))) <;> rw [hb] at hr <;> simp only [cond_true, cond_false, Acc.run] at hr
    · cases hr
    · simp only [Bool.and_eq_true, decide_eq_true_eq] at hb
      refine wp_value (v := .int .u8 (byteAt s n)) (w' := w) ?_ (hk g _ _ (put_run h hn (rep_int g _ _) hr))
      have hlt : n.toNat < s.size := by omega
      have hlt' : n.toNat < s.data.toList.length := by simpa using hlt
      have hget : s[n.toNat]? = some (s.data.toList.getD n.toNat 0) := by
        rw [getElem?_pos s n.toNat hlt]
        simp [List.getD, List.getElem?_eq_getElem hlt']
        rfl
      simp [execOp, ho, hu, hi, Instr.index, underlying, h2, asIntOf, if_pos hb.1, hget, byteAt]
  · simp [Acc.run] at hr

def extractAcc (nt : Nat) (d : Option Nat) (x : Operand) (i : Nat) : Acc Unit :=
  opnd x fun v => match v with | .tup cs => (match cs[i]? with | some c => put nt d (.val c) | none => .fail) | _ => .fail

theorem extract_sim {o : Oper} {x : Operand} {i : Nat} (ho : o.op = .extract x i) {nt : Nat} (hn : nt = C.nt) : Sim P C o (extractAcc nt o.dst x i) := by
  intro g st a w st' h hr K Q hk
  replace hr := opnd_run h hr; obtain ⟨u, hu, hr⟩ := hr
  split at hr
  · rename_i cs
    obtain ⟨vs, hvs, hall⟩ := hu
    split at hr
    · rename_i c hc
      obtain ⟨v, hv, hrep⟩ := AllRep.get hall i c hc
      refine wp_value (v := v) (w' := w) ?_ (hk g _ _ (put_run h hn (show SVRep g (.val c) v from hrep) hr))
      have : vs[i]? = some v := by simpa using hv
      simp [execOp, ho, hvs, Instr.extract, this]
    · simp [Acc.run] at hr
  · simp [Acc.run] at hr

end Go.Proofs.YtnnnpppodblblaaGreat.Ev
/-
Operations that read memory.
-/
namespace Go.Proofs.YtnnnpppodblblaaGreat.Ev
open Go

variable {P : Program} {C : Ctx} {g : Gh} {st st' : St} {a : Act} {w : World} {α : Type} {tab : Tab}

theorem add_plain {ad : Addr} (h : ad.spot = none) (n : Nat) : ad.add n = ⟨ad.block, ad.off + n, none⟩ := by
  cases ad with
  | mk b o s => simp at h; subst h; unfold Addr.add; split <;> simp_all

theorem cell_of {w : World} {b : Nat} {arr : Array Value} {ty : TypeId} {fr : Nat × Nat} (h : w.heap[b]? = some (.cells arr ty fr)) (i : Nat) : w.cell? ⟨b, i, none⟩ = arr[i]? := by
  simp [World.cell?, h]

theorem frozen_of {w : World} {b : Nat} {arr : Array Value} {ty : TypeId} {fr : Nat × Nat} (h : w.heap[b]? = some (.cells arr ty fr)) (i : Nat) :
    w.frozen? ⟨b, i, none⟩ = (decide (fr.1 ≤ i) && decide (i < fr.2)) := by
  simp [World.frozen?, h]

theorem rep_ptr {b off : Nat} {ad : Addr} (h : g.bxa b = some ad) : SVRep g (.ptr b off) (.pointer (some ⟨ad.block, ad.off + off, none⟩)) := ⟨ad, h, rfl⟩
theorem rep_eptr {q sz off len cap : Nat} {i : Int} {ad : Addr} (h1 : g.hd q = some (.slice (some ad) len cap)) (h2 : 0 ≤ i) (h3 : i < (len : Int)) (h4 : ad.spot = none) :
    SVRep g (.eptr q sz i off) (.pointer (some ⟨ad.block, ad.off + i.toNat * sz + off, none⟩)) := ⟨ad, len, cap, h1, h2, h3, h4, rfl⟩

theorem chkAges_run {n : Acc α} {p : α × St} : ∀ {l : List (Nat × Nat)}, (chkAges l n).run st = some p → (∀ q, q ∈ l → ∃ m, st (.lab q.1) = .ep m q.2) ∧ n.run st = some p := by
  intro l
  induction l with
  | nil => intro h; exact ⟨fun q hq => by simp at hq, h⟩
  | cons q r ih =>
    intro h
    simp only [chkAges, Acc.run] at h
    split at h
    · rename_i mt m hm
      split at h
      · rename_i hmq
        obtain ⟨h1, h2⟩ := ih h
        refine ⟨fun q' hq' => ?_, h2⟩
        rcases List.mem_cons.1 hq' with e | e
        · subst e; exact ⟨mt, by rw [hm, hmq]⟩
        · exact h1 q' e
      · simp [Acc.run] at h
    · simp [Acc.run] at h

theorem rdH_run {q : Nat} {k : HRec → Acc α} {p : α × St} (h : Rel C g st a w) (hr : (rdH q k).run st = some p) :
    ∃ r v, st (.hnd q) = .hr r ∧ Alive st r ∧ g.hd q = some v ∧ SRep w (LB g r.spine) (DRep w (LB g r.inner) r.e) r.e.size r.xs v ∧ (k r).run st = some p := by
  simp only [rdH, Acc.run] at hr
  split at hr
  · rename_i r hq
    obtain ⟨h1, h2⟩ := chkAges_run hr
    obtain ⟨v, hv, hs⟩ := h.hnds q r hq
    exact ⟨r, v, hq, h1, hv, hs h1, h2⟩
  · simp [Acc.run] at hr

theorem SRep.nil {L0 : Nat → Prop} {β : Type} {E : β → List Value → Prop} {size : Nat} : SRep w L0 E size [] (.slice none 0 0) :=
  ⟨none, 0, rfl, Nat.le_refl _, fun _ => rfl, fun a h => by cases h⟩

theorem leafXs_run {l : Leaf} {e : Ty} {k : List e.den → List (Nat × Nat) → List (Nat × Nat) → Acc α} {p : α × St} {u : Value} (h : Rel C g st a w) (hl : LeafRep g l u)
    (hr : (leafXs l e k).run st = some p) :
    ∃ xs s i, SRep w (LB g s) (DRep w (LB g i) e) e.size xs u ∧ (∀ q, q ∈ s ++ i → ∃ m, st (.lab q.1) = .ep m q.2) ∧ (k xs s i).run st = some p := by
  unfold leafXs at hr
  split at hr
  · simp only [LeafRep] at hl; subst hl
    exact ⟨[], [], [], SRep.nil, fun q hq => by simp at hq, hr⟩
  · rename_i q
    obtain ⟨r, v, h1, h2, h3, h4, h5⟩ := rdH_run h hr
    split at h5
    · rename_i he
      have : u = v := by have := hl.1; rw [h3] at this; exact (Option.some.inj this).symm
      subst this
      cases r with
      | mk e' s i xs =>
        simp only at he; subst he
        exact ⟨xs, s, i, h4, h2, h5⟩
    · simp [Acc.run] at h5
  · simp [Acc.run] at hr

theorem SRep.slice {L0 : Nat → Prop} {β : Type} {E : β → List Value → Prop} {size : Nat} {xs : List β} {v : Value} (h : SRep w L0 E size xs v) : ∃ A c, v = .slice A xs.length c := by
  obtain ⟨A, c, h, _⟩ := h; exact ⟨A, c, h⟩

/-! ### len -/
def lenAcc (tab : Tab) (nt : Nat) (d : Option Nat) (t : Nat) (x : Operand) : Acc Unit :=
  opnd x fun v =>
    match tab.lookup t, v with
    | some (.sc .str), .val (.leaf (.sc (.str s))) => put nt d (.val (.leaf (.sc (.int .i64 (s.size : Int)))))
    | some (.sl _ e _), .val (.leaf l) => leafXs l e fun xs _ _ => put nt d (.val (.leaf (.sc (.int .i64 (xs.length : Int)))))
    | _, _ => .fail

theorem len_sim {o : Oper} {t : Nat} {x : Operand} {ts : Array TypeId} (ho : o.op = .call ⟨.builtin .len, #[x], ts⟩) (hts : ts[0]? = some t) (ht : TabOk P tab) {nt : Nat} (hn : nt = C.nt) :
    Sim P C o (lenAcc tab nt o.dst t x) := by
  intro g st a w st' h hr K Q hk
  replace hr := opnd_run h hr; obtain ⟨u, hu, hr⟩ := hr
  split at hr
  · rename_i s hl
    simp only [SVRep, CVRep, LeafRep, Sc.val] at hu
    have h2 := (ht.get hl).1
    refine wp_value (v := .int .i64 (s.size : Int)) (w' := w) ?_ (hk g _ _ (put_run h hn (rep_int g _ _) hr))
    simp [execOp, ho, resolve, invoke, builtin, Builtin.len_, hts, hu, underlying, h2, goInt]
  · rename_i e' e by' l hl
    have h2 := (ht.get hl).1
    replace hr := leafXs_run h (show LeafRep g l _ from hu) hr; obtain ⟨xs, s, i, hs, _, hr⟩ := hr
    obtain ⟨A, c, hv⟩ := hs.slice
    refine wp_value (v := .int .i64 (xs.length : Int)) (w' := w) ?_ (hk g _ _ (put_run h hn (rep_int g _ _) hr))
    simp [execOp, ho, resolve, invoke, builtin, Builtin.len_, hts, hv, underlying, h2, goInt]
  · simp [Acc.run] at hr

/-! ### addresses -/
def fieldAddrAcc (tab : Tab) (nt : Nat) (d : Option Nat) (t : Nat) (x : Operand) (f : Nat) : Acc Unit :=
  opnd x fun v =>
    match tab.lookup t with
    | some (.st _ fs) =>
      match fs[f]?, v with
      | some p, .ptr b off => put nt d (.ptr b (off + p.1))
      | some p, .eptr h s i off => put nt d (.eptr h s i (off + p.1))
      | _, _ => .fail
    | _ => .fail

theorem st_field {t : Nat} {ls : List Ty} {fs : List (Nat × Nat × Nat)} (h : TIOk P t (.st ls fs)) {f : Nat} {p : Nat × Nat × Nat} (hf : fs[f]? = some p) :
    ∃ fields fld i, P.underlying t = some (.struct fields) ∧ fields[f]? = some fld ∧ fld.offset = p.1 ∧ fld.type = p.2.2 ∧ P.info? fld.type = some i ∧ i.size = p.2.1 ∧ 0 < p.2.1 ∧ p.1 + p.2.1 ≤ ls.length := by
  obtain ⟨⟨fields, h1, h2⟩, _, _, h3⟩ := h
  have hm := congrArg (fun l => l[f]?) h2
  simp only [List.getElem?_map, hf, Option.map_some, Array.getElem?_toList] at hm
  cases hfl : fields[f]? with
  | none => rw [hfl] at hm; simp at hm
  | some fld =>
    rw [hfl] at hm
    simp only [Option.map_some, Option.some.injEq, Prod.mk.injEq] at hm
    obtain ⟨e1, e2, e3⟩ := hm
    cases hi : P.info? fld.type with
    | none => rw [hi] at e2; simp at e2
    | some i =>
      rw [hi] at e2
      simp at e2
      have := List.all_eq_true.1 h3 p (List.mem_of_getElem? hf)
      simp at this
      exact ⟨fields, fld, i, h1, hfl, e1, e3, hi, e2, this.1, this.2⟩

theorem run_fieldAt {t : Nat} {ls : List Ty} {fs : List (Nat × Nat × Nat)} (h : TIOk P t (.st ls fs)) {f : Nat} {p : Nat × Nat × Nat} (hf : fs[f]? = some p) (b o : Nat) :
    (Instr.fieldAt t (.pointer (some ⟨b, o, none⟩)) f).run P w = .ok (.pointer (some ⟨b, o + p.1, none⟩)) w := by
  obtain ⟨fields, fld, i, h1, h2, h3, h4, h5, h6, h7, h8⟩ := st_field h hf
  have hne : ¬ i.size = 0 := by omega
  simp [Instr.fieldAt, underlying, h1, h2, Instr.sureAddr, fieldPlace, sizeOf, typeInfo, h5, hne, add_plain, h3]

theorem fieldAddr_sim {o : Oper} {t f : Nat} {x : Operand} (ho : o.op = .fieldAddr t x f) (ht : TabOk P tab) {nt : Nat} (hn : nt = C.nt) :
    Sim P C o (fieldAddrAcc tab nt o.dst t x f) := by
  intro g st a w st' h hr K Q hk
  replace hr := opnd_run h hr; obtain ⟨u, hu, hr⟩ := hr
  split at hr
  · rename_i ls fs hl
    split at hr
    · rename_i p b off hf
      obtain ⟨ad, ha, hu⟩ := hu
      refine wp_value (v := .pointer (some ⟨ad.block, ad.off + (off + p.1), none⟩)) (w' := w) ?_ (hk g _ _ (put_run h hn (rep_ptr ha) hr))
      have := run_fieldAt (w := w) (ht.get hl) hf ad.block (ad.off + off)
      rw [Nat.add_assoc] at this
      simp [execOp, ho, hu, this]
    · rename_i p q s i off hf
      obtain ⟨ad, len, cap, h1, h2, h3, h4, hu⟩ := hu
      refine wp_value (v := .pointer (some ⟨ad.block, ad.off + i.toNat * s + (off + p.1), none⟩)) (w' := w) ?_ (hk g _ _ (put_run h hn (rep_eptr h1 h2 h3 h4) hr))
      have := run_fieldAt (w := w) (ht.get hl) hf ad.block (ad.off + i.toNat * s + off)
      rw [Nat.add_assoc (ad.off + i.toNat * s) off p.1] at this
      simp [execOp, ho, hu, this]
    · simp [Acc.run] at hr
  · simp [Acc.run] at hr

def indexAddrAcc (tab : Tab) (nt : Nat) (d : Option Nat) (t : Nat) (x i : Operand) : Acc Unit :=
  opnd x fun v => opnd i fun vi => asInt vi fun n =>
    match tab.lookup t, v with
    | some (.sl _ e _), .val (.leaf (.sl h)) => rdH h fun r => if r.e = e then .br (decide (0 ≤ n) && decide (n < (r.xs.length : Int))) (put nt d (.eptr h e.size n 0)) .fail else .fail
    | _, _ => .fail

theorem indexAddr_sim {o : Oper} {t : Nat} {x i : Operand} (ho : o.op = .indexAddr t x i) (ht : TabOk P tab) {nt : Nat} (hn : nt = C.nt) :
    Sim P C o (indexAddrAcc tab nt o.dst t x i) := by
  intro g st a w st' h hr K Q hk
  replace hr := opnd_run h hr; obtain ⟨u, hu, hr⟩ := hr
  replace hr := opnd_run h hr; obtain ⟨v, hv, hr⟩ := hr
  replace hr := asInt_run hv hr; obtain ⟨kd, n, hi, hr⟩ := hr
  split at hr
  · rename_i e' e by' q hl
    obtain ⟨h1, _, h2, _⟩ := ht.get hl
    replace hr := rdH_run h hr; obtain ⟨r, v', hq, hal, hd, hs, hr⟩ := hr
    obtain ⟨A, c, hv', hc, hnone, hsome⟩ := hs
    split at hr
    · rename_i hre
      simp only [Acc.run] at hr
      cases hb : (decide (0 ≤ n) && decide (n < (r.xs.length : Int))) <;> rw [hb] at hr <;> simp only [cond_true, cond_false, Acc.run] at hr
      · cases hr
      · simp only [Bool.and_eq_true, decide_eq_true_eq] at hb
        have hu' : a.eval x = v' := by have := hu.1; rw [hd] at this; exact (Option.some.inj this).symm
        cases A with
        | none =>
          have := hnone rfl; subst this
          have : r.xs.length = 0 := by omega
          omega
        | some ad =>
          obtain ⟨hsp, _⟩ := hsome ad rfl (by omega)
          cases hinfo : P.info? e' with
          | none => rw [hinfo] at h2; simp at h2
          | some inf =>
            rw [hinfo] at h2
            simp at h2
            refine wp_value (v := .pointer (some ⟨ad.block, ad.off + n.toNat * e.size + 0, none⟩)) (w' := w) ?_
              (hk g _ _ (put_run h hn (rep_eptr (len := r.xs.length) (cap := c) (by rw [hd, hv']) hb.1 hb.2 hsp) hr))
            simp [execOp, ho, hu', hv', hi, Instr.indexAt, asIntOf, underlying, h1, hb, sizeOf, typeInfo, hinfo, add_plain hsp, h2.2.1]
    · simp [Acc.run] at hr
  · simp [Acc.run] at hr

end Go.Proofs.YtnnnpppodblblaaGreat.Ev
/-
Loads, parts of structs, cuts.
-/
namespace Go.Proofs.YtnnnpppodblblaaGreat.Ev
open Go

variable {P : Program} {C : Ctx} {g : Gh} {st st' : St} {a : Act} {w : World} {α : Type} {tab : Tab}

/-- Cells in memory: these values. -/
def CellsAt (w : World) (b o : Nat) (us : List Value) : Prop := ∃ arr ty fr, w.heap[b]? = some (.cells arr ty fr) ∧ ∀ (j : Nat) (v : Value), us[j]? = some v → arr[o + j]? = some v

theorem BoxRep.read {ad : Addr} {ls : List Leaf} (h : BoxRep g w ad ls) (off n : Nat) (hn : ((ls.drop off).take n).length = n) :
    ∃ us, us.length = n ∧ CellsAt w ad.block (ad.off + off) us ∧ AllRep (LeafRep g) ((ls.drop off).take n) us := by
  obtain ⟨arr, ty, fr, h1, h2, h3⟩ := h
  have hlen : ∀ j, j < n → off + j < ls.length := by
    intro j hj; simp at hn; omega
  have hex : ∀ j, j < n → ∃ v, arr[ad.off + off + j]? = some v ∧ LeafRep g (ls.getD (off + j) .dead) v := by
    intro j hj
    have hl : ls[off + j]? = some (ls.getD (off + j) .dead) := by
      simp [List.getD, List.getElem?_eq_getElem (hlen j hj)]
    obtain ⟨v, h4, h5⟩ := h3 (off + j) _ hl
    exact ⟨v, by rw [Nat.add_assoc]; exact h4, h5⟩
  refine ⟨(List.range n).map fun j => arr.getD (ad.off + off + j) undef, by simp, ⟨arr, ty, fr, h1, fun j v hj => ?_⟩, AllRep.mk (by simp at hn ⊢; omega) fun i d v hd hv => ?_⟩
  · simp only [List.getElem?_map, List.getElem?_range'] at hj
    by_cases hjn : j < n
    · obtain ⟨u, hu, _⟩ := hex j hjn
      simp [hjn] at hj
      rw [hu] at hj ⊢; simpa using hj
    · simp [hjn] at hj
  · by_cases hin : i < n
    · obtain ⟨u, hu, hr⟩ := hex i hin
      simp [hin] at hv
      rw [hu] at hv
      simp at hv; subst hv
      have : ls[off + i]? = some d := by
        rw [List.getElem?_take_of_lt hin, List.getElem?_drop] at hd; exact hd
      simpa [List.getD, this] using hr
    · simp [hin] at hv

theorem run_isAgg {t : Nat} {tys : List Ty} {agg : Bool} (ht : TabOk P tab) (hc : cellsOf tab t = some (tys, agg)) :
    (isAgg t).run P w = .ok agg w ∧ ∃ i, P.info? t = some i ∧ i.size = tys.length := by
  unfold cellsOf at hc
  split at hc
  · rename_i ty hl
    cases hc
    have h := ht.get hl
    obtain ⟨d, h1, h2⟩ := sc_desc h
    constructor
    · rcases h2 with ⟨k, _, rfl⟩ | ⟨_, rfl⟩ | ⟨_, rfl⟩ <;> simp [isAgg, underlying, h1]
    · cases hi : P.info? t with
      | none => cases ty <;> simp [TIOk, hi] at h
      | some i => refine ⟨i, rfl, ?_⟩; cases ty <;> simp [TIOk, hi] at h <;> simp [h]
  · rename_i ls fs hl
    cases hc
    have h := ht.get hl
    obtain ⟨⟨fields, h1, _⟩, h2, _, _⟩ := h
    refine ⟨by simp [isAgg, underlying, h1], ?_⟩
    cases hi : P.info? t with
    | none => simp [hi] at h2
    | some i => simp [hi] at h2; exact ⟨i, rfl, h2.2⟩
  · rename_i e ty by' hl
    cases hc
    have h := ht.get hl
    obtain ⟨h1, h2, _, _⟩ := h
    refine ⟨by simp [isAgg, underlying, h1], ?_⟩
    cases hi : P.info? t with
    | none => simp [hi] at h2
    | some i => simp [hi] at h2; exact ⟨i, rfl, h2⟩
  · cases hc

theorem run_loadVar {t : Nat} {tys : List Ty} {agg : Bool} (ht : TabOk P tab) (hc : cellsOf tab t = some (tys, agg)) {b o : Nat} {us : List Value}
    (hlen : us.length = tys.length) (hu : CellsAt w b o us) (ha : agg = false → tys.length = 1) :
    (loadVar t ⟨b, o, none⟩).run P w = .ok (if agg then .agg us.toArray else us.getD 0 undef) w := by
  obtain ⟨h1, i, h2, h3⟩ := run_isAgg (w := w) ht hc
  obtain ⟨arr, ty, fr, hb, hc'⟩ := hu
  cases agg with
  | true =>
    have := run_loadCells_list (P := P) w ⟨b, o, none⟩ us (fun j v hj => by rw [add_plain rfl, cell_of hb]; exact hc' j v hj)
    rw [hlen, ← h3] at this
    simp [loadVar, h1, sizeOf, typeInfo, h2, this]
  | false =>
    have h1' := ha rfl
    match us, hlen with
    | [u], _ =>
      have h0 : w.cell? ⟨b, o, none⟩ = some u := by rw [cell_of hb]; exact hc' 0 u rfl
      simp [loadVar, h1, h0]
    | [], hl => simp at hl; omega
    | _ :: _ :: _, hl => simp at hl; omega

theorem mkVal_run {agg : Bool} {ls : List Leaf} {us : List Value} {k : SV → Acc α} {p : α × St} (hls : AllRep (LeafRep g) ls us) (hr : (mkVal agg ls k).run st = some p) :
    ∃ v, SVRep g v (if agg then .agg us.toArray else us.getD 0 undef) ∧ (k v).run st = some p := by
  unfold mkVal at hr
  cases agg with
  | true => exact ⟨.val (.agg ls), ⟨us.toArray, rfl, by simpa using hls⟩, by simpa using hr⟩
  | false =>
    simp only [if_false, Bool.false_eq_true] at hr
    split at hr
    · rename_i l
      obtain ⟨v, r, rfl, hv, hrr⟩ := hls
      exact ⟨.val (.leaf l), hv, hr⟩
    · simp [Acc.run] at hr

theorem Alive.set_hnd {id : Nat} {v : UV} {l : List (Nat × Nat)} (h : ∀ q, q ∈ l → ∃ m, st (.lab q.1) = .ep m q.2) : ∀ q, q ∈ l → ∃ m, (st.set (.hnd id) v) (.lab q.1) = .ep m q.2 :=
  fun q hq => by rw [St.hnd_lab]; exact h q hq

theorem LRep.ext {g' : Gh} (e : GhExt g g') {lb : List (Nat × Nat)} {d : LD} {v : Value} (h : LRep w (LB g lb) d v) : LRep w (LB g' lb) d v :=
  h.mono fun b hb => ⟨LB.ext e hb, rfl⟩

/-- Cells that are read out of an element: its slices get handles. -/
theorem ldLeaves_run {lb : List (Nat × Nat)} {k : List Leaf → Acc α} {p : α × St} (hal : ∀ q, q ∈ lb → ∃ m, st (.lab q.1) = .ep m q.2) :
    ∀ {lds : List LD} {us : List Value} {id : Nat} {g : Gh} {st : St} {k : List Leaf → Acc α}, Rel C g st a w → (∀ q, q ∈ lb → ∃ m, st (.lab q.1) = .ep m q.2) → AllRep (LRep w (LB g lb)) lds us →
      (ldLeaves lds id lb k).run st = some p →
      ∃ g' st1 ls, Rel C g' st1 a w ∧ GhExt g g' ∧ AllRep (LeafRep g') ls us ∧ (k ls).run st1 = some p := by
  intro lds
  induction lds with
  | nil => intro us id g st k h _ hu hr; simp only [AllRep] at hu; subst hu; exact ⟨g, st, [], h, GhExt.refl g, rfl, hr⟩
  | cons d ds ih =>
    intro us id g st k h hal hu hr
    obtain ⟨u, r, rfl, hd, hrest⟩ := hu
    cases d with
    | sc s =>
      simp only [ldLeaves] at hr
      obtain ⟨g', st1, ls, h1, h2, h3, h4⟩ := ih h hal hrest hr
      exact ⟨g', st1, .sc s :: ls, h1, h2, ⟨u, r, rfl, hd, h3⟩, h4⟩
    | sl e xs =>
      simp only [ldLeaves, mkH] at hr
      split at hr
      · rename_i hid
        simp only [Acc.run] at hr
        split at hr
        · rename_i hno
          simp only [Acc.run] at hr
          have hin : ∀ q, q ∈ (if e.plain = true then ([] : List (Nat × Nat)) else lb) → q ∈ lb := fun q hq => by
            split at hq
            · simp at hq
            · exact hq
          have hrel := h.alias (id := id) (r := ⟨e, lb, if e.plain = true then [] else lb, xs⟩) (v := u) hno (C.own id hid).1 (fun q hq => by
            have hq : q ∈ lb := by
              rcases List.mem_append.1 hq with hq | hq
              · exact hq
              · exact hin q hq
            obtain ⟨m, hm⟩ := hal q hq; exact ⟨m, _, hm, Nat.le_refl _⟩) (fun _ => SRep.mono hd (fun b hb => ⟨hb, rfl⟩) fun x cs hx => by
            by_cases hp : e.plain = true
            · exact hx.plain hp
            · simp only [if_neg hp]; exact hx)
          have ex := Gh.addH_ext (h.no_hd hno) u
          obtain ⟨g', st1, ls, h1, h2, h3, h4⟩ := ih hrel (Alive.set_hnd hal) (hrest.imp fun _ _ _ hv => LRep.ext ex hv) hr
          refine ⟨g', st1, .sl id :: ls, h1, ⟨fun q v hq => h2.hd _ _ (ex.hd _ _ hq), fun q v hq => h2.bxa _ _ (ex.bxa _ _ hq), fun q v hq => h2.lb _ _ (ex.lb _ _ hq)⟩, ⟨u, r, rfl, ?_, h3⟩, h4⟩
          obtain ⟨A, c, hv, _⟩ := hd
          exact ⟨h2.hd _ _ (by simp [Gh.addH]), by rw [hv]; rfl⟩
        · simp [Acc.run] at hr
      · simp [Acc.run] at hr

theorem AllRep.sub {β : Type} {R : β → Value → Prop} {ds : List β} {cs : List Value} (h : AllRep R ds cs) (o n : Nat) : AllRep R ((ds.drop o).take n) ((cs.drop o).take n) := by
  have hl := h.length
  refine AllRep.mk (by simp [hl]) fun i d v hd hv => ?_
  have hin : i < n := by
    by_cases hi : i < n
    · exact hi
    · rw [List.getElem?_take_eq_none (by omega)] at hd; cases hd
  rw [List.getElem?_take_of_lt hin, List.getElem?_drop] at hd hv
  obtain ⟨u, h1, h2⟩ := h.get _ _ hd
  rw [hv] at h1; cases h1; exact h2

def loadAcc' (tab : Tab) (nt : Nat) (d : Option Nat) (t : Nat) (x : Operand) : Acc Unit := opnd x fun v => loadAcc tab nt d t v

theorem one_of_agg {t : Nat} {tys : List Ty} (hc : cellsOf tab t = some (tys, false)) : tys.length = 1 := by
  unfold cellsOf at hc
  split at hc <;> cases hc <;> rfl

theorem load_sim {o : Oper} {t : Nat} {x : Operand} (ho : o.op = .load t x) (ht : TabOk P tab) {nt : Nat} (hn : nt = C.nt) :
    Sim P C o (loadAcc' tab nt o.dst t x) := by
  intro g st a w st' h hr K Q hk
  replace hr := opnd_run h hr; obtain ⟨u, hu, hr⟩ := hr
  unfold loadAcc at hr
  split at hr
  · rename_i tys agg b off hc
    obtain ⟨ad, ha, hu⟩ := hu
    simp only [Acc.run] at hr
    split at hr
    · rename_i ro cs hb
      obtain ⟨ad', ha', hrep⟩ := h.boxes b ro cs hb
      rw [ha] at ha'; cases ha'
      split at hr
      · rename_i hlen
        obtain ⟨us, h1, h2, h3⟩ := hrep.read off tys.length hlen
        replace hr := mkVal_run h3 hr; obtain ⟨v, hv, hr⟩ := hr
        refine wp_value (v := _) (w' := w) ?_ (hk g _ _ (put_run h hn hv hr))
        have := run_loadVar (w := w) ht hc h1 h2 (fun e => by subst e; exact one_of_agg hc)
        simp [execOp, ho, hu, Instr.loadAt, Instr.sureAddr, this]
      · simp [Acc.run] at hr
    · simp [Acc.run] at hr
  · rename_i tys agg q sz i off hc
    obtain ⟨ad, len, cap, h1, h2, h3, h4, hu⟩ := hu
    replace hr := rdH_run h hr; obtain ⟨r, v', hq, hal, hd, hs, hr⟩ := hr
    rw [h1] at hd; cases hd
    split at hr
    · rename_i hsz
      simp only at hr
      split at hr
      · rename_i hlen
        obtain ⟨A, c, hv', hc', hnone, hsome⟩ := hs
        cases hv'
        obtain ⟨hsp, hlb, arr, ty, fr, hb, hbd, hel⟩ := hsome ad rfl (by omega)
        have hi : i.toNat < r.xs.length := by omega
        have hx : r.xs[i.toNat]? = some (r.xs.getD i.toNat r.e.zero) := by simp [List.getD, List.getElem?_eq_getElem hi]
        obtain ⟨es, he1, he2, he3⟩ := hel i.toNat _ hx
        have hfl := he3.flat.sub off tys.length
        have hlen' : ((es.drop off).take tys.length).length = tys.length := by rw [AllRep.length hfl, hlen]
        obtain ⟨g', st1, ls, k1, k2, k3, k4⟩ := ldLeaves_run (k := fun lv => mkVal agg lv (put nt o.dst)) (st := st) (fun q hq => hal q (by simp [hq])) h (fun q hq => hal q (by simp [hq])) hfl hr
        obtain ⟨v, hv, hr⟩ := mkVal_run k3 k4
        refine wp_value (v := _) (w' := w) ?_ (hk g' _ _ (put_run k1 hn hv hr))
        have := run_loadVar (w := w) (b := ad.block) (o := ad.off + i.toNat * sz + off) ht hc hlen' ⟨arr, ty, fr, hb, fun j v hj => by
          have hjl : j < tys.length := by rw [← hlen']; exact (List.getElem?_eq_some_iff.1 hj).1
          rw [List.getElem?_take_of_lt hjl, List.getElem?_drop] at hj
          have := he2 (off + j) v hj
          rw [hsz] at this
          rwa [Nat.add_assoc]⟩ (fun e => by subst e; exact one_of_agg hc)
        simp [execOp, ho, hu, Instr.loadAt, Instr.sureAddr, this]
      · simp [Acc.run] at hr
    · simp [Acc.run] at hr
  · simp [Acc.run] at hr

end Go.Proofs.YtnnnpppodblblaaGreat.Ev
/-
Fields of values, cuts, structs that are built.
-/
namespace Go.Proofs.YtnnnpppodblblaaGreat.Ev
open Go

variable {P : Program} {C : Ctx} {g : Gh} {st st' : St} {a : Act} {w : World} {α : Type} {tab : Tab}

def fieldAcc (tab : Tab) (nt : Nat) (d : Option Nat) (t : Nat) (x : Operand) (f : Nat) : Acc Unit :=
  opnd x fun v =>
    match tab.lookup t, v with
    | some (.st _ fs), .val (.agg ls) =>
      match fs[f]? with
      | some p => (match cellsOf tab p.2.2 with
        | some (tys, agg) => let vs := (ls.drop p.1).take tys.length; if vs.length = tys.length ∧ tys.length = p.2.1 then mkVal agg vs (put nt d) else .fail
        | none => .fail)
      | none => .fail
    | _, _ => .fail

theorem field_sim {o : Oper} {t f : Nat} {x : Operand} (ho : o.op = .field t x f) (ht : TabOk P tab) {nt : Nat} (hn : nt = C.nt) :
    Sim P C o (fieldAcc tab nt o.dst t x f) := by
  intro g st a w st' h hr K Q hk
  replace hr := opnd_run h hr; obtain ⟨u, hu, hr⟩ := hr
  split at hr
  · rename_i q fs ls hl
    obtain ⟨cs, hcs, hall⟩ := hu
    split at hr
    · rename_i p hp
      split at hr
      · rename_i tys agg hc
        simp only at hr
        split at hr
        · rename_i hlen
          obtain ⟨fields, fld, i, h1, h2, h3, h4, h5, h6, h7, h8⟩ := st_field (ht.get hl) hp
          have hsub := hall.sub p.1 tys.length
          replace hr := mkVal_run hsub hr; obtain ⟨v, hv, hr⟩ := hr
          refine wp_value (v := _) (w' := w) ?_ (hk g _ _ (put_run h hn hv hr))
          obtain ⟨hagg, i', hi', hsz⟩ := run_isAgg (w := w) ht hc
          have hlen2 := AllRep.length hsub
          have hl1 : ((cs.toList.drop p.1).take tys.length).length = tys.length := by rw [hlen2, hlen.1]
          cases agg with
          | true =>
            have hx : (cs.extract p.1 (p.1 + tys.length)) = ((cs.toList.drop p.1).take tys.length).toArray := by
              apply Array.ext'; simp [List.take_drop]
            simp [execOp, ho, hcs, Instr.field, underlying, h1, h2, asAgg, part, h3, h4, hagg, sizeOf, typeInfo, hi', hsz, hx]
          | false =>
            have h1' := one_of_agg hc
            rw [h1'] at hl1 ⊢
            have hlt : p.1 < cs.size := by simp at hl1; omega
            simp [execOp, ho, hcs, Instr.field, underlying, h1, h2, asAgg, part, h3, h4, hagg, Array.getElem?_eq_getElem hlt, List.getD, List.getElem?_eq_getElem, hlt]
        · simp [Acc.run] at hr
      · simp [Acc.run] at hr
    · simp [Acc.run] at hr
  · simp [Acc.run] at hr

/-! ### cuts -/
theorem optInt_run {x : Option Operand} {k : Option Int → Acc α} {p : α × St} (h : Rel C g st a w) (hr : (optInt x k).run st = some p) :
    ∃ n : Option Int, (x = none ∧ n = none ∨ ∃ y kd m, x = some y ∧ n = some m ∧ a.eval y = .int kd m) ∧ (k n).run st = some p := by
  cases x with
  | none => exact ⟨none, .inl ⟨rfl, rfl⟩, hr⟩
  | some y =>
    simp only [optInt] at hr
    replace hr := opnd_run h hr; obtain ⟨v, hv, hr⟩ := hr
    replace hr := asInt_run hv hr; obtain ⟨kd, n, hi, hr⟩ := hr
    exact ⟨some n, .inr ⟨y, kd, n, rfl, rfl, hi⟩, hr⟩

theorem cutB_run {n : Nat} {lo hi : Option Int} {k : Nat → Nat → Acc α} {p : α × St} (hr : (cutB n lo hi k).run st = some p) :
    ∃ l h : Nat, l ≤ h ∧ h ≤ n ∧ (∀ x, lo = some x → x = (l : Int)) ∧ (lo = none → l = 0) ∧ (∀ x, hi = some x → x = (h : Int)) ∧ (hi = none → h = n) ∧ (k l h).run st = some p := by
  have key : ∀ (b : Bool) (A : Acc α), (Acc.br b A .fail).run st = some p → b = true ∧ A.run st = some p := by
    intro b A hb; cases b
    · simp [Acc.run] at hb
    · exact ⟨rfl, by simpa [Acc.run] using hb⟩
  cases lo with
  | none =>
    cases hi with
    | none =>
      obtain ⟨_, h2⟩ := key _ _ hr
      exact ⟨0, n, Nat.zero_le _, Nat.le_refl _, by simp, by simp, by simp, by simp, by simpa using h2⟩
    | some y =>
      obtain ⟨h1, h2⟩ := key _ _ hr
      simp at h1
      exact ⟨0, y.toNat, Nat.zero_le _, by omega, by simp, by simp, fun x hx => by cases hx; omega, by simp, by simpa using h2⟩
  | some x =>
    cases hi with
    | none =>
      obtain ⟨h1, h2⟩ := key _ _ hr
      simp at h1
      exact ⟨x.toNat, n, by omega, Nat.le_refl _, fun z hz => by cases hz; omega, by simp, by simp, by simp, by simpa using h2⟩
    | some y =>
      obtain ⟨h1, h2⟩ := key _ _ hr
      simp at h1
      exact ⟨x.toNat, y.toNat, by omega, by omega, fun z hz => by cases hz; omega, by simp, fun z hz => by cases hz; omega, by simp, by simpa using h2⟩

theorem run_cut_slice {t e size : Nat} {inf : TypeInfo} (h1 : P.underlying t = some (.slice e)) (hi : P.info? e = some inf) (hs : inf.size = size) {A : Option Addr} {len c : Nat} (hc : len ≤ c)
    {lo hi' : Option Int} {vlo vhi : Option Value} {l h : Nat} (hl : l ≤ h) (hh : h ≤ len) (e1 : ∀ x, lo = some x → x = (l : Int)) (e2 : lo = none → l = 0) (e3 : ∀ x, hi' = some x → x = (h : Int)) (e4 : hi' = none → h = len)
    (v1 : lo = none ∧ vlo = none ∨ ∃ kd m, lo = some m ∧ vlo = some (.int kd m)) (v2 : hi' = none ∧ vhi = none ∨ ∃ kd m, hi' = some m ∧ vhi = some (.int kd m)) :
    (Instr.sliceAt t (.slice A len c) vlo vhi none).run P w = .ok (.slice (if c = l then A else A.map (·.add (l * size))) (h - l) (c - l)) w := by
  have hs' : (sizeOf e).run P w = .ok size w := by simp [sizeOf, typeInfo, hi, hs]
  rcases v1 with ⟨rfl, rfl⟩ | ⟨kd, m, rfl, rfl⟩ <;> rcases v2 with ⟨rfl, rfl⟩ | ⟨kd', m', rfl, rfl⟩
  · have := e2 rfl; subst this; have := e4 rfl; subst this
    simp [Instr.sliceAt, underlying, h1, Instr.slice, Instr.sliceBounds, hs']
  · have := e2 rfl; subst this; have := e3 _ rfl; subst this
    have : (h : Int) ≤ c := by omega
    simp [Instr.sliceAt, underlying, h1, Instr.slice, Instr.sliceBounds, hs', Instr.sliceBound, asIntOf, this]
    omega
  · have := e1 _ rfl; subst this; have := e4 rfl; subst this
    have : (l : Int) ≤ h := by omega
    simp [Instr.sliceAt, underlying, h1, Instr.slice, Instr.sliceBounds, hs', Instr.sliceBound, asIntOf, this]
    omega
  · have := e1 _ rfl; subst this; have := e3 _ rfl; subst this
    have h3 : (l : Int) ≤ h := by omega
    have h4 : (h : Int) ≤ c := by omega
    have h5 : h ≤ c := by omega
    simp [Instr.sliceAt, underlying, h1, Instr.slice, Instr.sliceBounds, hs', Instr.sliceBound, asIntOf, h3, h4, h5, hl]

theorem run_cut_string {t : Nat} (h1 : P.underlying t = some .string) {s : ByteArray} {lo hi' : Option Int} {vlo vhi : Option Value} {l h : Nat} (hl : l ≤ h) (hh : h ≤ s.size)
    (e1 : ∀ x, lo = some x → x = (l : Int)) (e2 : lo = none → l = 0) (e3 : ∀ x, hi' = some x → x = (h : Int)) (e4 : hi' = none → h = s.size)
    (v1 : lo = none ∧ vlo = none ∨ ∃ kd m, lo = some m ∧ vlo = some (.int kd m)) (v2 : hi' = none ∧ vhi = none ∨ ∃ kd m, hi' = some m ∧ vhi = some (.int kd m)) :
    (Instr.sliceAt t (.string s) vlo vhi none).run P w = .ok (.string (s.extract l h)) w := by
  rcases v1 with ⟨rfl, rfl⟩ | ⟨kd, m, rfl, rfl⟩ <;> rcases v2 with ⟨rfl, rfl⟩ | ⟨kd', m', rfl, rfl⟩
  · have := e2 rfl; subst this; have := e4 rfl; subst this
    simp [Instr.sliceAt, underlying, h1, Instr.slice, Instr.sliceBounds]
  · have := e2 rfl; subst this; have := e3 _ rfl; subst this
    have : (h : Int) ≤ s.size := by omega
    simp [Instr.sliceAt, underlying, h1, Instr.slice, Instr.sliceBounds, Instr.sliceBound, asIntOf, hh]
  · have := e1 _ rfl; subst this; have := e4 rfl; subst this
    simp [Instr.sliceAt, underlying, h1, Instr.slice, Instr.sliceBounds, Instr.sliceBound, asIntOf, hl]
  · have := e1 _ rfl; subst this; have := e3 _ rfl; subst this
    simp [Instr.sliceAt, underlying, h1, Instr.slice, Instr.sliceBounds, Instr.sliceBound, asIntOf, hl, hh]

theorem SRep.cut {L0 : Nat → Prop} {β : Type} {E : β → List Value → Prop} {size : Nat} {xs : List β} {A : Option Addr} {len c l h : Nat}
    (hs : SRep w L0 E size xs (.slice A len c)) (hl : l ≤ h) (hh : h ≤ len) :
    SRep w L0 E size ((xs.take h).drop l) (.slice (if c = l then A else A.map (·.add (l * size))) (h - l) (c - l)) := by
  obtain ⟨A', c', hv, hc, hnone, hsome⟩ := hs
  simp only [Value.slice.injEq] at hv
  obtain ⟨rfl, rfl, rfl⟩ := hv
  have hlen : ((xs.take h).drop l).length = h - l := by simp; omega
  refine ⟨(if c = l then A else A.map (·.add (l * size))), c - l, by rw [hlen], by rw [hlen]; omega, fun hN => ?_, fun ad hA hpos => ?_⟩
  · by_cases e : c = l
    · omega
    · rw [if_neg e] at hN
      cases A with
      | none => have := hnone rfl; omega
      | some x => simp at hN
  · by_cases e : c = l
    · rw [if_pos e] at hA
      obtain ⟨h1, h2, arr, ty, fr, h3, h4, h5⟩ := hsome ad hA (by omega)
      refine ⟨h1, h2, arr, ty, fr, h3, ?_, fun i x hx => ?_⟩
      · have : (c - l) * size ≤ c * size := Nat.mul_le_mul_right _ (by omega)
        omega
      · have : i < h - l := by rw [← hlen]; exact (List.getElem?_eq_some_iff.1 hx).1
        omega
    · rw [if_neg e] at hA
      cases A with
      | none => simp at hA
      | some ad0 =>
        simp at hA
        obtain ⟨h1, h2, arr, ty, fr, h3, h4, h5⟩ := hsome ad0 rfl (by omega)
        rw [add_plain h1] at hA
        subst hA
        have hlc : l ≤ c := by omega
        have hmul : c * size = l * size + (c - l) * size := by rw [← Nat.add_mul]; congr 1; omega
        refine ⟨rfl, h2, arr, ty, fr, h3, by simp only; omega, fun i x hx => ?_⟩
        have hil : i < h - l := by rw [← hlen]; exact (List.getElem?_eq_some_iff.1 hx).1
        rw [List.getElem?_drop, List.getElem?_take_of_lt (by omega)] at hx
        obtain ⟨cs, k1, k2, k3⟩ := h5 (l + i) x hx
        refine ⟨cs, k1, fun j v hj => ?_, k3⟩
        have := k2 j v hj
        rw [Nat.add_mul] at this
        have e2 : ad0.off + l * size + i * size + j = ad0.off + (l * size + i * size) + j := by omega
        simp only
        rw [e2]; exact this

/-- A cut to the end is told to be one. -/
def winAcc (lf : Leaf) (b : Bool) (id lo sz : Nat) (n : Acc α) : Acc α :=
  match lf, b with
  | .sl p, true => .wr (.win id) (.wn p lo sz) n
  | _, _ => n

def sliceAcc (tab : Tab) (nt : Nat) (d : Option Nat) (t : Nat) (x : Operand) (lo hi : Option Operand) : Acc Unit :=
  opnd x fun v => optInt lo fun l => optInt hi fun h =>
    match tab.lookup t, v, d with
    | some (.sc .str), .val (.leaf (.sc (.str s))), d => cutB s.size l h fun l h => put nt d (.val (.leaf (.sc (.str (s.extract l h)))))
    | some (.sl _ e _), .val (.leaf lf), some d => leafXs lf e fun xs sp inn => cutB xs.length l h fun l h => mkH (64 * d) ⟨e, sp, inn, (xs.take h).drop l⟩ (winAcc lf hi.isNone (64 * d) l e.size (put nt (some d) (.val (.leaf (.sl (64 * d))))))
    | _, _, _ => .fail

theorem mkH_run {id : Nat} {r : HRec} {n : Acc α} {p : α × St} {v : Value} (h : Rel C g st a w) (hl : ∀ p, p ∈ r.spine ++ r.inner → ∃ m n, st (.lab p.1) = .ep m n ∧ p.2 ≤ n) (hs : Alive st r → SRep w (LB g r.spine) (DRep w (LB g r.inner) r.e) r.e.size r.xs v)
    (hr : (mkH id r n).run st = some p) : Rel C (g.addH id v) (st.set (.hnd id) (.hr r)) a w ∧ GhExt g (g.addH id v) ∧ n.run (st.set (.hnd id) (.hr r)) = some p := by
  unfold mkH at hr
  split at hr
  · rename_i hid
    simp only [Acc.run] at hr
    split at hr
    · rename_i hno
      simp only [Acc.run] at hr
      exact ⟨h.alias hno (C.own id hid).1 hl hs, Gh.addH_ext (h.no_hd hno) v, hr⟩
    · simp [Acc.run] at hr
  · simp [Acc.run] at hr

theorem rep_hd {id : Nat} {v : Value} (hv : v.oneCell = true) : SVRep (g.addH id v) (.val (.leaf (.sl id))) v := ⟨by simp [Gh.addH], hv⟩

theorem winAcc_run {lf : Leaf} {b : Bool} {id lo sz : Nat} {n : Acc α} {p : α × St} (h : Rel C g st a w) (hw : ∀ q, lf = .sl q → b = true → WinRep g id q lo sz) (hr : (winAcc lf b id lo sz n).run st = some p) :
    ∃ st1, Rel C g st1 a w ∧ n.run st1 = some p := by
  unfold winAcc at hr
  split at hr
  · exact ⟨_, h.setWin (hw _ rfl rfl), hr⟩
  · exact ⟨st, h, hr⟩

theorem slice_sim {o : Oper} {t : Nat} {x : Operand} {lo hi : Option Operand} (ho : o.op = .slice t x lo hi none) (ht : TabOk P tab) {nt : Nat} (hn : nt = C.nt) :
    Sim P C o (sliceAcc tab nt o.dst t x lo hi) := by
  intro g st a w st' h hr K Q hk
  replace hr := opnd_run h hr; obtain ⟨u, hu, hr⟩ := hr
  replace hr := optInt_run h hr; obtain ⟨nl, hnl, hr⟩ := hr
  replace hr := optInt_run h hr; obtain ⟨nh, hnh, hr⟩ := hr
  have v1 : nl = none ∧ lo.map a.eval = none ∨ ∃ kd m, nl = some m ∧ lo.map a.eval = some (.int kd m) := by
    rcases hnl with ⟨rfl, rfl⟩ | ⟨y, kd, m, rfl, rfl, hy⟩
    · exact .inl ⟨rfl, rfl⟩
    · exact .inr ⟨kd, m, rfl, by simp [hy]⟩
  have v2 : nh = none ∧ hi.map a.eval = none ∨ ∃ kd m, nh = some m ∧ hi.map a.eval = some (.int kd m) := by
    rcases hnh with ⟨rfl, rfl⟩ | ⟨y, kd, m, rfl, rfl, hy⟩
    · exact .inl ⟨rfl, rfl⟩
    · exact .inr ⟨kd, m, rfl, by simp [hy]⟩
  split at hr
  · rename_i s hl
    simp only [SVRep, CVRep, LeafRep, Sc.val] at hu
    replace hr := cutB_run hr; obtain ⟨l, hh, q1, q2, q3, q4, q5, q6, hr⟩ := hr
    have h1 := (ht.get hl).1
    have := run_cut_string (w := w) h1 q1 q2 q3 q4 q5 q6 v1 v2
    refine wp_value (v := .string (s.extract l hh)) (w' := w) ?_ (hk g _ _ (put_run h hn (rep_str g _) hr))
    simp [execOp, ho, hu, this]
  · rename_i e' e by' lf d hl hd
    obtain ⟨h1, _, h2, _⟩ := ht.get hl
    replace hr := leafXs_run h (show LeafRep g lf _ from hu) hr; obtain ⟨xs, sp, inn, hs, hal, hr⟩ := hr
    replace hr := cutB_run hr; obtain ⟨l, hh, q1, q2, q3, q4, q5, q6, hr⟩ := hr
    obtain ⟨A, c, hv, hc, hrest⟩ := id hs
    have hs' := hs
    rw [hv] at hs'
    cases hinfo : P.info? e' with
    | none => rw [hinfo] at h2; simp at h2
    | some inf =>
      rw [hinfo] at h2
      simp at h2
      have hcut := hs'.cut q1 q2
      replace hr := mkH_run (v := .slice (if c = l then A else A.map (·.add (l * e.size))) (hh - l) (c - l)) h (fun q hq => by obtain ⟨m, hm⟩ := hal q hq; exact ⟨m, _, hm, Nat.le_refl _⟩) (fun _ => hcut) hr
      obtain ⟨hrel, hext, hr⟩ := hr
      have := run_cut_slice (w := w) h1 hinfo h2.2.1 (A := A) hc q1 q2 q3 q4 q5 q6 v1 v2
      obtain ⟨st1, hrel, hr⟩ := winAcc_run hrel (fun q e hn => by
        subst e
        have hA : g.hd q = some (a.eval x) := (show LeafRep g (.sl q) _ from hu).1
        rw [hv] at hA
        have hlen : hh = xs.length := q6 (by
          rcases hnh with ⟨_, e⟩ | ⟨y, kd, m, e, _⟩
          · exact e
          · rw [e] at hn; cases hn)
        exact ⟨A, xs.length, c, hext.hd _ _ hA, by simp [Gh.addH, hlen], by omega, hc⟩) hr
      refine wp_value (v := .slice (if c = l then A else A.map (·.add (l * e.size))) (hh - l) (c - l)) (w' := w) ?_ (hk _ _ _ (put_run hrel hn (rep_hd rfl) (by rw [hd]; exact hr)))
      simp [execOp, ho, hv, this]
  · simp [Acc.run] at hr

end Go.Proofs.YtnnnpppodblblaaGreat.Ev
/-
Variables in memory: made, stored into.
-/
namespace Go.Proofs.YtnnnpppodblblaaGreat.Ev
open Go

variable {P : Program} {C : Ctx} {g : Gh} {st st' : St} {a : Act} {w : World} {α : Type} {tab : Tab}

theorem zero_rep : ∀ (t : Ty), AllRep (LeafRep g) (zeroLeaf t) (zeroVals t) := by
  intro t
  induction t with
  | unit => rfl
  | int k => exact ⟨_, [], rfl, rfl, rfl⟩
  | bool => exact ⟨_, [], rfl, rfl, rfl⟩
  | str => exact ⟨_, [], rfl, rfl, rfl⟩
  | sl e => exact ⟨_, [], rfl, rfl, rfl⟩
  | pair a b iha ihb => exact iha.append ihb

def allocAcc (tab : Tab) (nt : Nat) (d : Option Nat) (t : Nat) : Acc Unit :=
  match d, cellsOf tab t with
  | some d, some (tys, _) => if d < 10000000 then .rd (.box d) fun
      | .no => .wr (.box d) (.bx false (zeroLeaf (Ty.of tys))) (put nt (some d) (.ptr d 0))
      | _ => .fail
    else .fail
  | _, _ => .fail

theorem zero_cells {t : Nat} {tys : List Ty} {agg : Bool} (ht : TabOk P tab) (hc : cellsOf tab t = some (tys, agg)) (hs : ∀ e te by', tab.lookup t ≠ some (.sl e te by')) :
    ∃ i z, P.info? t = some i ∧ i.zero = some z ∧ z.cells.toList = zeroVals (Ty.of tys) := by
  unfold cellsOf at hc
  split at hc
  · rename_i ty hl
    cases hc
    have h := ht.get hl
    cases hi : P.info? t with
    | none => cases ty <;> simp [TIOk, hi] at h
    | some i =>
      cases ty <;> simp [TIOk, hi] at h
      · exact ⟨i, _, rfl, h.2.1, rfl⟩
      · exact ⟨i, _, rfl, h.2.1, rfl⟩
      · exact ⟨i, _, rfl, h.2.1, rfl⟩
  · rename_i ls fs hl
    cases hc
    obtain ⟨_, h2, _, _⟩ := ht.get hl
    cases hi : P.info? t with
    | none => simp [hi] at h2
    | some i => simp [hi] at h2; exact ⟨i, _, rfl, h2.1, rfl⟩
  · rename_i e te by' hl
    exact absurd hl (hs e te by')
  · cases hc

def allocAcc' (tab : Tab) (nt : Nat) (d : Option Nat) (t : Nat) : Acc Unit :=
  match tab.lookup t with
  | some (.sl _ _ _) => .fail
  | _ => allocAcc tab nt d t

theorem rep_box {id : Nat} {ad : Addr} : SVRep (g.addB id ad) (.ptr id 0) (.pointer (some ⟨ad.block, ad.off + 0, none⟩)) := rep_ptr (by simp [Gh.addB])

theorem alloc_sim {o : Oper} {t : Nat} (ho : o.op = .alloc t) (ht : TabOk P tab) {nt : Nat} (hn : nt = C.nt) : Sim P C o (allocAcc' tab nt o.dst t) := by
  intro g st a w st' h hr K Q hk
  unfold allocAcc' at hr
  split at hr
  · simp [Acc.run] at hr
  · rename_i hns
    unfold allocAcc at hr
    split at hr
    · rename_i d tys agg hd hc
      split at hr
      · rename_i hid
        simp only [Acc.run] at hr
        split at hr
        · rename_i hno
          simp only [Acc.run] at hr
          obtain ⟨i, z, h1, h2, h3⟩ := zero_cells ht hc (fun e te by' e' => hns e te by' e')
          have hrel := h.newBox (id := d) (ls := zeroLeaf (Ty.of tys)) (arr := z.cells) hno (C.own d hid).2.2 t (by rw [h3]; exact zero_rep _)
          refine wp_value (v := .pointer (some ⟨w.heap.size, 0, none⟩)) (w' := { w with heap := w.heap.push (.cells z.cells t) }) ?_ (hk _ _ _ (put_run hrel hn (rep_box (ad := ⟨w.heap.size, 0, none⟩)) (by rw [hd]; exact hr)))
          simp [execOp, ho, Instr.alloc, zeroValue, typeInfo, h1, h2, newVar, newRow]
        · simp [Acc.run] at hr
      · simp [Acc.run] at hr
    · simp [Acc.run] at hr

def boxAcc (nt : Nat) (d : Option Nat) (x : Operand) : Acc Unit :=
  match d with
  | some d => opnd x fun v => leavesOf v fun ls => if d < 10000000 then .rd (.box d) fun
      | .no => .wr (.box d) (.bx false ls) (put nt (some d) (.ptr d 0))
      | _ => .fail
    else .fail
  | none => .fail

theorem box_sim {o : Oper} {t : Nat} {x : Operand} (ho : o.op = .box t x) {nt : Nat} (hn : nt = C.nt) : Sim P C o (boxAcc nt o.dst x) := by
  intro g st a w st' h hr K Q hk
  unfold boxAcc at hr
  split at hr
  · rename_i d hd
    replace hr := opnd_run h hr; obtain ⟨u, hu, hr⟩ := hr
    replace hr := leavesOf_run hu hr; obtain ⟨ls, hls, hr⟩ := hr
    split at hr
    · rename_i hid
      simp only [Acc.run] at hr
      split at hr
      · rename_i hno
        simp only [Acc.run] at hr
        have hrel := h.newBox (id := d) (ls := ls) (arr := (a.eval x).cells) hno (C.own d hid).2.2 t hls
        refine wp_value (v := .pointer (some ⟨w.heap.size, 0, none⟩)) (w' := { w with heap := w.heap.push (.cells (a.eval x).cells t) }) ?_ (hk _ _ _ (put_run hrel hn (rep_box (ad := ⟨w.heap.size, 0, none⟩)) (by rw [hd]; exact hr)))
        simp [execOp, ho, Instr.box, newVar, newRow]
      · simp [Acc.run] at hr
    · simp [Acc.run] at hr
  · simp [Acc.run] at hr

/-! ### stores -/
theorem oneCell_eq (v : Value) : v.oneCell' = v.oneCell := by cases v <;> rfl

structure Stored (w w' : World) (b o : Nat) (vs : List Value) (arr arr' : Array Value) (ty : TypeId) (fr : Nat × Nat) : Prop where
  was : w.heap[b]? = some (.cells arr ty fr)
  now : w'.heap[b]? = some (.cells arr' ty fr)
  size : arr'.size = arr.size
  in_ : ∀ (j : Nat) (v : Value), vs[j]? = some v → arr'[o + j]? = some v
  out : ∀ j, (j < o ∨ o + vs.length ≤ j) → arr'[j]? = arr[j]?
  other : ∀ b', b' ≠ b → w'.heap[b']? = w.heap[b']?
  hsize : w'.heap.size = w.heap.size
  os : w'.os = w.os
  tape : w'.tape = w.tape
  output : w'.output = w.output

theorem Stored.cells {w' : World} {b o : Nat} {vs : List Value} {arr arr' : Array Value} {ty : TypeId} {fr : Nat × Nat} (hs : Stored w w' b o vs arr arr' ty fr) : ∀ b', Cells w b' → Cells w' b' := fun b' h => by
  by_cases e : b' = b
  · subst e
    obtain ⟨arr0, ty0, fr0, k1, k2⟩ := h
    rw [hs.was] at k1; cases k1
    exact ⟨arr', ty, fr, hs.now, fun o ho => k2 o (by rw [← hs.size]; exact ho)⟩
  · exact h.world (hs.other b' e)

theorem run_stored (b o : Nat) (ty : TypeId) (fr : Nat × Nat) : ∀ (vs : List Value) (i : Nat) (arr : Array Value) (w : World), w.heap[b]? = some (.cells arr ty fr) →
    o + i + vs.length ≤ arr.size → Free arr fr → (∀ v, v ∈ vs → v.oneCell = true) → ∃ w' arr', (storeCells ⟨b, o, none⟩ vs i).run P w = .ok () w' ∧ Stored w w' b (o + i) vs arr arr' ty fr := by
  intro vs
  induction vs with
  | nil =>
    intro i arr w hb hl hf hv
    exact ⟨w, arr, rfl, hb, hb, rfl, fun j v hj => by simp at hj, fun _ _ => rfl, fun _ _ => rfl, rfl, rfl, rfl, rfl⟩
  | cons v r ih =>
    intro i arr w hb hl hf hv
    have hi : o + i < arr.size := by simp at hl; omega
    have hcell : w.cell? ⟨b, o + i, none⟩ = some arr[o + i] := by rw [cell_of hb]; simp [hi]
    have hfro : w.frozen? ⟨b, o + i, none⟩ = false := by
      rw [frozen_of hb]
      have := hf (o + i) hi
      simp; omega
    have hst : (store ((⟨b, o, none⟩ : Addr).add i) v).run P w = .ok () (w.setCell ⟨b, o + i, none⟩ v) := by
      rw [add_plain rfl, run_store P w _ v _ (by rw [oneCell_eq]; exact hv v (by simp)), hcell]
      simp [hfro]
    have hblt : b < w.heap.size := (Array.getElem?_eq_some_iff.1 hb).1
    have hnow : (w.setCell ⟨b, o + i, none⟩ v).heap[b]? = some (.cells (arr.setIfInBounds (o + i) v) ty fr) := by
      simp [World.setCell, Array.getElem?_modify, hb]
    obtain ⟨w', arr', h1, h2⟩ := ih (i + 1) (arr.setIfInBounds (o + i) v) (w.setCell ⟨b, o + i, none⟩ v) hnow (by simp at hl ⊢; omega)
      (fun q hq => hf q (by simpa using hq)) (fun u hu => hv u (by simp [hu]))
    refine ⟨w', arr', by simp only [storeCells, Sem.run_bind, hst, Result.andThen_ok, h1], hb, h2.now, by rw [h2.size]; simp, fun j u hj => ?_, fun j hj => ?_, fun b' hb' => ?_, by rw [h2.hsize]; simp [World.setCell], h2.os, h2.tape, h2.output⟩
    · cases j with
      | zero =>
        simp at hj; subst hj
        rw [Nat.add_zero, h2.out (o + i) (.inl (by omega))]
        simp [hi]
      | succ j =>
        simp at hj
        have := h2.in_ j u hj
        rwa [show o + i + (j + 1) = o + (i + 1) + j by omega]
    · have hne : o + i ≠ j := by simp at hj; omega
      rw [h2.out j (by simp at hj; omega), Array.getElem?_setIfInBounds_ne hne]
    · rw [h2.other b' hb']
      simp [World.setCell, Array.getElem?_modify, Ne.symm hb']

theorem take_drop_get {β : Type} (cs vs : List β) (off n : Nat) (hn : vs.length = n) (hl : off + n ≤ cs.length) (j : Nat) :
    (cs.take off ++ vs ++ cs.drop (off + n))[j]? = if j < off then cs[j]? else if j < off + n then vs[j - off]? else cs[j]? := by
  by_cases h1 : j < off
  · rw [if_pos h1, List.append_assoc, List.getElem?_append_left (by simp; omega), List.getElem?_take_of_lt h1]
  · rw [if_neg h1]
    by_cases h2 : j < off + n
    · rw [if_pos h2, List.getElem?_append_left (by simp; omega), List.getElem?_append_right (by simp; omega)]
      congr 1; simp; omega
    · rw [if_neg h2, List.getElem?_append_right (by simp; omega), List.getElem?_drop]
      congr 1; simp; omega

theorem take_drop_length {β : Type} (cs vs : List β) (off n : Nat) (hn : vs.length = n) (hl : off + n ≤ cs.length) : (cs.take off ++ vs ++ cs.drop (off + n)).length = cs.length := by
  simp; omega

/-- A store into a variable. -/
theorem Rel.storeBox (h : Rel C g st a w) {b off : Nat} {cs vs : List Leaf} {ad : Addr} {w' : World} {us : List Value} {arr arr' : Array Value} {ty : TypeId} {fr : Nat × Nat}
    (hb : st (.box b) = .bx false cs) (ha : g.bxa b = some ad) (hs : Stored w w' ad.block (ad.off + off) us arr arr' ty fr) (hv : AllRep (LeafRep g) vs us) (hl : off + vs.length ≤ cs.length) :
    Rel C g (st.set (.box b) (.bx false (cs.take off ++ vs ++ cs.drop (off + vs.length)))) a w' := by
  have hal : ∀ q, Alive (st.set (.box b) (.bx false (cs.take off ++ vs ++ cs.drop (off + vs.length)))) q ↔ Alive st q := fun q => by simp only [Alive, St.box_lab]
  obtain ⟨r1, r2, r3, r4⟩ := h.rws b cs ad hb ha
  have hlb : ∀ s b', LB g s b' → w'.heap[b']? = w.heap[b']? := fun s b' hb' => by
    obtain ⟨p, _, hp⟩ := hb'
    exact hs.other b' fun e => r1 p.1 (e ▸ hp)
  have huv := AllRep.length hv
  exact { h with
    slots := fun n v' hn => by rw [St.box_slot] at hn; exact h.slots n v' hn
    hnds := fun q r' hq => by
      rw [St.box_hnd] at hq
      obtain ⟨u, h1, h2⟩ := h.hnds q r' hq
      exact ⟨u, h1, fun hx => (h2 ((hal r').1 hx)).mono (fun b' hb' => ⟨hb', hlb _ _ hb'⟩) fun x cs hx => DRep.mono (fun b' hb' => ⟨hb', hlb _ _ hb'⟩) hx⟩
    boxes := fun b' ro ls' hq => by
      by_cases e : b' = b
      · subst e; rw [St.set_same] at hq; cases hq
        obtain ⟨ad', ha', arr0, ty0, fr0, k1, k2, k3⟩ := h.boxes b' false cs hb
        rw [ha] at ha'; cases ha'
        rw [hs.was] at k1; cases k1
        refine ⟨ad, ha, arr', ty, fr, hs.now, by rw [take_drop_length _ _ _ _ rfl hl, hs.size]; exact k2, fun j l hj => ?_⟩
        rw [take_drop_get _ _ _ _ rfl hl] at hj
        split at hj
        · rename_i hlt
          obtain ⟨v, v1, v2⟩ := k3 j l hj
          exact ⟨v, by rw [hs.out _ (.inl (by omega))]; exact v1, v2⟩
        · split at hj
          · rename_i hge hlt
            obtain ⟨v, v1, v2⟩ := hv.get _ _ hj
            refine ⟨v, ?_, v2⟩
            have := hs.in_ _ _ v1
            rwa [show ad.off + off + (j - off) = ad.off + j by omega] at this
          · obtain ⟨v, v1, v2⟩ := k3 j l hj
            exact ⟨v, by rw [hs.out _ (.inr (by omega))]; exact v1, v2⟩
      · rw [St.set_ne _ _ (by simpa using e)] at hq
        obtain ⟨ad', h1, h2⟩ := h.boxes b' ro ls' hq
        exact ⟨ad', h1, h2.world (hs.other _ (r2 b' ad' e h1))⟩
    hdom := fun q u hq => by rw [St.box_hnd]; exact h.hdom q u hq
    wins := fun q p lo sz hq => by rw [St.box_win] at hq; exact h.wins q p lo sz hq
    bdom := fun q u hq => by
      by_cases e : q = b
      · subst e; exact ⟨(h.bdom q u hq).1, false, _, St.set_same _ _ _⟩
      · rw [St.set_ne _ _ (by simpa using e)]; exact h.bdom q u hq
    hlabs := fun q r hq p hp => by rw [St.box_hnd] at hq; rw [St.box_lab]; exact h.hlabs q r hq p hp
    labs := fun b' l hq => by rw [St.box_lab, hs.hsize]; exact h.labs b' l hq
    muts := fun b' l n hq hn => by
      rw [St.box_lab] at hn
      obtain ⟨p1, p2, p3, p4⟩ := h.muts b' l n hq hn
      exact ⟨p1, p2, p3.world (hs.other _ fun e => r1 l (e ▸ hq)), p4⟩
    rws := fun r ls' ad' hq ha' => by
      by_cases e : r = b
      · subst e
        rw [ha] at ha'; cases ha'
        rw [St.set_same] at hq; cases hq
        refine ⟨r1, r2, ?_, fun hlt j hj => r4 hlt j (by rwa [take_drop_length _ _ _ _ rfl hl] at hj)⟩
        obtain ⟨arr0, ty0, fr0, k1, k2⟩ := r3
        rw [hs.was] at k1; cases k1
        exact ⟨arr', ty, fr, hs.now, fun o ho => k2 o (by rw [← hs.size]; exact ho)⟩
      · rw [St.set_ne _ _ (by simpa using e)] at hq
        obtain ⟨p1, p2, p3, p4⟩ := h.rws r ls' ad' hq ha'
        exact ⟨p1, p2, p3.world (hs.other _ (r2 r ad' e ha')), p4⟩
    frame := fun b' hb' ho => by
      by_cases e : b' = ad.block
      · subst e
        refine (h.frame _ hb' ho).trans (.inr ⟨arr, arr', ty, fr, hs.was, hs.now, hs.size, fun i hi => hs.out i ?_⟩)
        by_cases h1 : i < ad.off + off
        · exact .inl h1
        · refine .inr ?_
          apply Nat.le_of_not_lt
          intro h2
          have := r4 hb' (i - ad.off) (by omega)
          rw [show ad.off + (i - ad.off) = i by omega] at this
          exact hi this
      · rw [hs.other b' e]; exact h.frame b' hb' ho
    cells := fun b' hb' => hs.cells b' (h.cells b' hb')
    size := by rw [hs.hsize]; exact h.size
    os := hs.os.trans h.os
    tape := hs.tape.trans h.tape
    output := hs.output.trans h.output }

end Go.Proofs.YtnnnpppodblblaaGreat.Ev
/-
Rows that are written: labels get older, who else reads them is dead.
-/
namespace Go.Proofs.YtnnnpppodblblaaGreat.Ev
open Go

variable {P : Program} {C : Ctx} {g : Gh} {st st' : St} {a : Act} {w : World} {α : Type} {tab : Tab}

/-- Labels that got older. -/
structure Bumped (st st2 : St) (l : List (Nat × Nat)) : Prop where
  was : ∀ p, p ∈ l → st (.lab p.1) = .ep true p.2
  now : ∀ p, p ∈ l → st2 (.lab p.1) = .ep true (p.2 + 1)
  other : ∀ k, (∀ p, p ∈ l → k ≠ .lab p.1) → st2 k = st k

theorem bump_run : ∀ {l : List (Nat × Nat)} {k : List (Nat × Nat) → Acc α} {st : St} {p : α × St}, (bump l k).run st = some p →
    ∃ st2, Bumped st st2 l ∧ (k (l.map fun q => (q.1, q.2 + 1))).run st2 = some p := by
  intro l
  induction l with
  | nil => intro k st p h; exact ⟨st, ⟨fun q hq => by simp at hq, fun q hq => by simp at hq, fun _ _ => rfl⟩, h⟩
  | cons q r ih =>
    intro k st p h
    simp only [bump, Acc.run] at h
    split at h
    · rename_i m hm
      split at h
      · rename_i hmq
        obtain ⟨hmq, hnd⟩ := hmq
        subst hmq
        simp only [Acc.run] at h
        obtain ⟨st2, hb, hk⟩ := ih h
        have hne : ∀ x, x ∈ r → x.1 ≠ q.1 := fun x hx => by simpa using List.all_eq_true.1 hnd x hx
        refine ⟨st2, ⟨fun x hx => ?_, fun x hx => ?_, fun k' hk' => ?_⟩, hk⟩
        · rcases List.mem_cons.1 hx with e | e
          · subst e; exact hm
          · have := hb.was x e; rwa [St.set_ne _ _ (by simpa using hne x e)] at this
        · rcases List.mem_cons.1 hx with e | e
          · subst e
            rw [hb.other _ (fun y hy => by simpa using (hne y hy).symm), St.set_same]
          · exact hb.now x e
        · rw [hb.other k' (fun y hy => hk' y (by simp [hy])), St.set_ne _ _ (hk' q (by simp))]
      · simp [Acc.run] at h
    · simp [Acc.run] at h

/-- Handles that name an older label are dead. -/
def Avoids (st : St) (l : List (Nat × Nat)) : Prop := ∀ h r, st (.hnd h) = .hr r → Alive st r → ∀ p, p ∈ r.spine ++ r.inner → ∀ q, q ∈ l → p.1 ≠ q.1

theorem Rel.bumped {st2 : St} {l : List (Nat × Nat)} (h : Rel C g st a w) (hb : Bumped st st2 l) : Rel C g st2 a w ∧ Avoids st2 l := by
  have hs : ∀ n, st2 (.slot n) = st (.slot n) := fun n => hb.other _ (fun p _ => by simp)
  have hh : ∀ n, st2 (.hnd n) = st (.hnd n) := fun n => hb.other _ (fun p _ => by simp)
  have hx : ∀ n, st2 (.box n) = st (.box n) := fun n => hb.other _ (fun p _ => by simp)
  have hl : ∀ n, (st2 (.lab n) = st (.lab n) ∧ ∀ p, p ∈ l → p.1 ≠ n) ∨ ∃ p, p ∈ l ∧ p.1 = n := fun n => by
    by_cases e : ∃ p, p ∈ l ∧ p.1 = n
    · exact .inr e
    · exact .inl ⟨hb.other _ fun p hp => by simp; exact fun e' => e ⟨p, hp, e'.symm⟩, fun p hp e' => e ⟨p, hp, e'⟩⟩
  have key : ∀ q r, st (.hnd q) = .hr r → Alive st2 r → (∀ p, p ∈ r.spine ++ r.inner → ∀ x, x ∈ l → p.1 ≠ x.1) ∧ Alive st r := fun q r hq ha => by
    have h1 : ∀ p, p ∈ r.spine ++ r.inner → ∀ x, x ∈ l → p.1 ≠ x.1 := fun p hp x hxl e => by
      obtain ⟨m, hm⟩ := ha p hp
      obtain ⟨m', n', hm', hle⟩ := h.hlabs q r hq p hp
      rw [e, hb.now x hxl] at hm
      rw [e, hb.was x hxl] at hm'
      injection hm with _ e1
      injection hm' with _ e2
      omega
    refine ⟨h1, fun p hp => ?_⟩
    obtain ⟨m, hm⟩ := ha p hp
    rcases hl p.1 with ⟨e, _⟩ | ⟨x, hxl, e⟩
    · exact ⟨m, by rw [← e]; exact hm⟩
    · exact absurd e.symm (h1 p hp x hxl)
  refine ⟨{ h with
    slots := fun n v' hn => by rw [hs] at hn; exact h.slots n v' hn
    hnds := fun q r' hq => by
      rw [hh] at hq
      obtain ⟨u, h1, h2⟩ := h.hnds q r' hq
      exact ⟨u, h1, fun ha => h2 (key q r' hq ha).2⟩
    boxes := fun b' ro ls' hq => by rw [hx] at hq; exact h.boxes b' ro ls' hq
    hdom := fun q u hq => by rw [hh]; exact h.hdom q u hq
    bdom := fun q u hq => by rw [hx]; exact h.bdom q u hq
    hlabs := fun q r hq p hp => by
      rw [hh] at hq
      obtain ⟨m, n, hm, hn⟩ := h.hlabs q r hq p hp
      rcases hl p.1 with ⟨e, _⟩ | ⟨x, hxl, e⟩
      · exact ⟨m, n, by rw [e]; exact hm, hn⟩
      · refine ⟨true, x.2 + 1, by rw [← e]; exact hb.now x hxl, ?_⟩
        rw [← e, hb.was x hxl] at hm; injection hm with _ e1; omega
    labs := fun b' l' hq => by
      obtain ⟨⟨m, n, hm⟩, hlt⟩ := h.labs b' l' hq
      rcases hl l' with ⟨e, _⟩ | ⟨x, hxl, e⟩
      · exact ⟨⟨m, n, by rw [e]; exact hm⟩, hlt⟩
      · exact ⟨⟨true, _, by rw [← e]; exact hb.now x hxl⟩, hlt⟩
    muts := fun b' l' n hq hn => by
      rcases hl l' with ⟨e, _⟩ | ⟨x, hxl, e⟩
      · rw [e] at hn; exact h.muts b' l' n hq hn
      · exact h.muts b' l' x.2 hq (by rw [← e]; exact hb.was x hxl)
    wins := fun q p lo sz hq => by rw [hb.other _ (fun p _ => by simp)] at hq; exact h.wins q p lo sz hq
    rws := fun r ls' ad' hq ha' => by rw [hx] at hq; exact h.rws r ls' ad' hq ha' }, fun q r hq ha p hp x hxl => ?_⟩
  rw [hh] at hq
  exact (key q r hq ha).1 p hp x hxl

/-- A block of a label that nobody alive names is written. -/
theorem Rel.storedMut (h : Rel C g st a w) {w' : World} {b o : Nat} {us : List Value} {arr arr' : Array Value} {ty : TypeId} {fr : Nat × Nat} {l : List (Nat × Nat)} (hav : Avoids st l)
    {q : Nat × Nat} (hql : q ∈ l) (hlb : g.lb b q.1) {n : Nat} (hn : st (.lab q.1) = .ep true n) (hs : Stored w w' b o us arr arr' ty fr) : Rel C g st a w' := by
  obtain ⟨m1, m2, m3, m4⟩ := h.muts b q.1 n hlb hn
  have hne : ∀ s b', LB g s b' → (∀ p, p ∈ s → p.1 ≠ q.1) → w'.heap[b']? = w.heap[b']? := fun s b' hb' hp => by
    obtain ⟨p, hp1, hp2⟩ := hb'
    refine hs.other b' fun e => ?_
    subst e
    exact hp p hp1 (m1 p.1 hp2)
  exact { h with
    hnds := fun x r' hq => by
      obtain ⟨u, h1, h2⟩ := h.hnds x r' hq
      refine ⟨u, h1, fun ha => ?_⟩
      have ho := hav x r' hq ha
      exact (h2 ha).mono (fun b' hb' => ⟨hb', hne _ _ hb' fun p hp => ho p (by simp [hp]) q hql⟩) fun x cs hx => DRep.mono (fun b' hb' => ⟨hb', hne _ _ hb' fun p hp => ho p (by simp [hp]) q hql⟩) hx
    boxes := fun b' ro ls' hq => by
      obtain ⟨ad, h1, h2⟩ := h.boxes b' ro ls' hq
      exact ⟨ad, h1, h2.world (hs.other _ (m2 b' ad h1))⟩
    labs := fun b' l' hq => by rw [hs.hsize]; exact h.labs b' l' hq
    muts := fun b' l' n' hq hn' => by
      obtain ⟨p1, p2, p3, p4⟩ := h.muts b' l' n' hq hn'
      refine ⟨p1, p2, ?_, p4⟩
      by_cases e : b' = b
      · subst e
        obtain ⟨arr0, ty0, fr0, k1, k2⟩ := p3
        rw [hs.was] at k1; cases k1
        exact ⟨arr', ty, fr, hs.now, fun o ho => k2 o (by rw [← hs.size]; exact ho)⟩
      · exact p3.world (hs.other b' e)
    rws := fun r ls' ad' hq ha' => by
      obtain ⟨p1, p2, p3, p4⟩ := h.rws r ls' ad' hq ha'
      exact ⟨p1, p2, p3.world (hs.other _ fun e => p1 q.1 (e ▸ hlb)), p4⟩
    frame := fun b' hb' ho => by
      by_cases e : b' = b
      · subst e; exact absurd (m4 hb') ho
      · rw [hs.other b' e]; exact h.frame b' hb' ho
    cells := fun b' hb' => hs.cells b' (h.cells b' hb')
    size := by rw [hs.hsize]; exact h.size
    os := hs.os.trans h.os
    tape := hs.tape.trans h.tape
    output := hs.output.trans h.output }

/-- A handle's record anew. -/
theorem Rel.setH (h : Rel C g st a w) {id : Nat} {r : HRec} {v : Value} (hv : g.hd id = some v) (hl : ∀ p, p ∈ r.spine ++ r.inner → ∃ m n, st (.lab p.1) = .ep m n ∧ p.2 ≤ n)
    (hs : Alive st r → SRep w (LB g r.spine) (DRep w (LB g r.inner) r.e) r.e.size r.xs v) : Rel C g (st.set (.hnd id) (.hr r)) a w := by
  have hal : ∀ q, Alive (st.set (.hnd id) (.hr r)) q ↔ Alive st q := fun q => by simp only [Alive, St.hnd_lab]
  exact { h with
    slots := fun n v' hn => by rw [St.hnd_slot] at hn; exact h.slots n v' hn
    hnds := fun q r' hq => by
      by_cases e : q = id
      · subst e; rw [St.set_same] at hq; cases hq
        exact ⟨v, hv, fun ha => hs ((hal r).1 ha)⟩
      · rw [St.set_ne _ _ (by simpa using e)] at hq
        obtain ⟨u, h1, h2⟩ := h.hnds q r' hq
        exact ⟨u, h1, fun ha => h2 ((hal r').1 ha)⟩
    boxes := fun b ro ls hq => by rw [St.hnd_box] at hq; exact h.boxes b ro ls hq
    hdom := fun q u hq => by
      by_cases e : q = id
      · subst e; exact ⟨r, St.set_same _ _ _⟩
      · rw [St.set_ne _ _ (by simpa using e)]; exact h.hdom q u hq
    bdom := fun q u hq => by rw [St.hnd_box]; exact h.bdom q u hq
    hlabs := fun q r' hq p hp => by
      rw [St.hnd_lab]
      by_cases e : q = id
      · subst e; rw [St.set_same] at hq; cases hq; exact hl p hp
      · rw [St.set_ne _ _ (by simpa using e)] at hq; exact h.hlabs q r' hq p hp
    labs := fun b l hq => by rw [St.hnd_lab]; exact h.labs b l hq
    muts := fun b l n hq hn => by rw [St.hnd_lab] at hn; exact h.muts b l n hq hn
    wins := fun q p lo sz hq => by rw [St.hnd_win] at hq; exact h.wins q p lo sz hq
    rws := fun r' ls ad hq ha => by rw [St.hnd_box] at hq; exact h.rws r' ls ad hq ha }

theorem denOf_run {t : Ty} : ∀ {ls : List Leaf} {us : List Value} {k : t.den → List Leaf → List (Nat × Nat) → Acc α} {p : α × St}, Rel C g st a w → AllRep (LeafRep g) ls us → (denOf t ls k).run st = some p →
    ∃ x rest lbl us1 us2, us = us1 ++ us2 ∧ DRep w (LB g lbl) t x us1 ∧ AllRep (LeafRep g) rest us2 ∧ (∀ q, q ∈ lbl → ∃ m, st (.lab q.1) = .ep m q.2) ∧ (k x rest lbl).run st = some p := by
  induction t with
  | unit =>
    intro ls us k p h hu hr
    exact ⟨(), ls, [], [], us, rfl, rfl, hu, fun q hq => by simp at hq, by simpa [denOf] using hr⟩
  | int kd =>
    intro ls us k p h hu hr
    match ls, hu, hr with
    | .sc (.int kd' n) :: r, hu, hr =>
      obtain ⟨v, r', rfl, hv, hrest⟩ := hu
      simp only [denOf] at hr
      split at hr
      · rename_i e; subst e
        simp only [LeafRep, Sc.val] at hv
        exact ⟨n, r, [], [v], r', rfl, by rw [hv]; rfl, hrest, fun q hq => by simp at hq, hr⟩
      · simp [Acc.run] at hr
    | [], hu, hr => simp [denOf, Acc.run] at hr
    | .dead :: _, hu, hr => simp [denOf, Acc.run] at hr
    | .nil :: _, hu, hr => simp [denOf, Acc.run] at hr
    | .sl _ :: _, hu, hr => simp [denOf, Acc.run] at hr
    | .sc (.bool _) :: _, hu, hr => simp [denOf, Acc.run] at hr
    | .sc (.str _) :: _, hu, hr => simp [denOf, Acc.run] at hr
  | bool =>
    intro ls us k p h hu hr
    match ls, hu, hr with
    | .sc (.bool n) :: r, hu, hr =>
      obtain ⟨v, r', rfl, hv, hrest⟩ := hu
      simp only [LeafRep, Sc.val] at hv
      exact ⟨n, r, [], [v], r', rfl, by rw [hv]; rfl, hrest, fun q hq => by simp at hq, hr⟩
    | [], hu, hr => simp [denOf, Acc.run] at hr
    | .dead :: _, hu, hr => simp [denOf, Acc.run] at hr
    | .nil :: _, hu, hr => simp [denOf, Acc.run] at hr
    | .sl _ :: _, hu, hr => simp [denOf, Acc.run] at hr
    | .sc (.int _ _) :: _, hu, hr => simp [denOf, Acc.run] at hr
    | .sc (.str _) :: _, hu, hr => simp [denOf, Acc.run] at hr
  | str =>
    intro ls us k p h hu hr
    match ls, hu, hr with
    | .sc (.str n) :: r, hu, hr =>
      obtain ⟨v, r', rfl, hv, hrest⟩ := hu
      simp only [LeafRep, Sc.val] at hv
      exact ⟨n, r, [], [v], r', rfl, by rw [hv]; rfl, hrest, fun q hq => by simp at hq, hr⟩
    | [], hu, hr => simp [denOf, Acc.run] at hr
    | .dead :: _, hu, hr => simp [denOf, Acc.run] at hr
    | .nil :: _, hu, hr => simp [denOf, Acc.run] at hr
    | .sl _ :: _, hu, hr => simp [denOf, Acc.run] at hr
    | .sc (.int _ _) :: _, hu, hr => simp [denOf, Acc.run] at hr
    | .sc (.bool _) :: _, hu, hr => simp [denOf, Acc.run] at hr
  | pair a b iha ihb =>
    intro ls us k p h hu hr
    simp only [denOf] at hr
    obtain ⟨x, r1, l1, u1, u2, rfl, d1, hrest, ha1, hr⟩ := iha h hu hr
    obtain ⟨y, r2, l2, u3, u4, rfl, d2, hrest2, ha2, hr⟩ := ihb h hrest hr
    refine ⟨(x, y), r2, l1 ++ l2, u1 ++ u3, u4, by simp, ⟨u1, u3, rfl, d1.mono fun b hb => ⟨?_, rfl⟩, d2.mono fun b hb => ⟨?_, rfl⟩⟩, hrest2, fun q hq => ?_, hr⟩
    · obtain ⟨z, hz, hz'⟩ := hb; exact ⟨z, by simp [hz], hz'⟩
    · obtain ⟨z, hz, hz'⟩ := hb; exact ⟨z, by simp [hz], hz'⟩
    · rcases List.mem_append.1 hq with e | e
      · exact ha1 q e
      · exact ha2 q e
  | sl e ih =>
    intro ls us k p h hu hr
    match ls, hu, hr with
    | l :: r, hu, hr =>
      obtain ⟨v, r', rfl, hv, hrest⟩ := hu
      simp only [denOf] at hr
      obtain ⟨xs, s, i, hs, hal, hr⟩ := leafXs_run h hv hr
      refine ⟨xs, r, s ++ i, [v], r', rfl, ⟨v, rfl, hs.mono (fun b hb => ⟨?_, rfl⟩) fun x cs hx => DRep.mono (fun b hb => ⟨?_, rfl⟩) hx⟩, hrest, hal, hr⟩
      · obtain ⟨z, hz, hz'⟩ := hb; exact ⟨z, by simp [hz], hz'⟩
      · obtain ⟨z, hz, hz'⟩ := hb; exact ⟨z, by simp [hz], hz'⟩
    | [], hu, hr => simp [denOf, Acc.run] at hr

end Go.Proofs.YtnnnpppodblblaaGreat.Ev
/-
Stores.
-/
namespace Go.Proofs.YtnnnpppodblblaaGreat.Ev
open Go

variable {P : Program} {C : Ctx} {g : Gh} {st st' : St} {a : Act} {w : World} {α : Type} {tab : Tab}

theorem run_storeVar {t : Nat} {tys : List Ty} {agg : Bool} (ht : TabOk P tab) (hc : cellsOf tab t = some (tys, agg)) {b o : Nat} {arr : Array Value} {ty : TypeId} {fr : Nat × Nat} {v : Value}
    (hb : w.heap[b]? = some (.cells arr ty fr)) (hl : o + v.cells.toList.length ≤ arr.size) (hf : Free arr fr) (h1 : ∀ u, u ∈ v.cells.toList → u.oneCell = true) (hn : v.cells.toList.length = tys.length) :
    ∃ w' arr', (storeVar t ⟨b, o, none⟩ v).run P w = .ok () w' ∧ Stored w w' b o v.cells.toList arr arr' ty fr := by
  obtain ⟨_, i, h2, h3⟩ := run_isAgg (w := w) ht hc
  obtain ⟨w', arr', k1, k2⟩ := run_stored (P := P) b o ty fr v.cells.toList 0 arr w hb (by simpa using hl) hf h1
  refine ⟨w', arr', ?_, by simpa using k2⟩
  have : v.cells.size = i.size := by rw [h3, ← hn]; simp
  simp [storeVar, sizeOf, typeInfo, h2, this, k1]

theorem AllRep.one {ls : List Leaf} {us : List Value} (h : AllRep (LeafRep g) ls us) : ∀ u, u ∈ us → u.oneCell = true := by
  intro u hu
  obtain ⟨i, hi⟩ := List.mem_iff_getElem?.1 hu
  have hl := h.length
  have hlt : i < ls.length := by rw [← hl]; exact (List.getElem?_eq_some_iff.1 hi).1
  obtain ⟨v, hv, hr⟩ := h.get i ls[i] (List.getElem?_eq_getElem hlt)
  rw [hi] at hv; cases hv
  exact LeafRep.one hr

theorem apartL_spec {s t : List (Nat × Nat)} (h : apartL s t = true) : ∀ p, p ∈ s → ∀ q, q ∈ t → p.1 ≠ q.1 := by
  intro p hp q hq
  have := List.all_eq_true.1 (List.all_eq_true.1 h p hp) q hq
  simpa using this

theorem Bumped.keeps {st st2 : St} {l s : List (Nat × Nat)} (hb : Bumped st st2 l) (hap : ∀ p, p ∈ l → ∀ q, q ∈ s → p.1 ≠ q.1) (hs : ∀ q, q ∈ s → ∃ m, st (.lab q.1) = .ep m q.2) :
    ∀ q, q ∈ s → ∃ m, st2 (.lab q.1) = .ep m q.2 := fun q hq => by
  obtain ⟨m, hm⟩ := hs q hq
  exact ⟨m, by rw [hb.other _ (fun p hp => by simpa using (hap p hp q hq).symm)]; exact hm⟩

theorem mul_apart {i j sz k off n : Nat} (hij : i ≠ j) (hk : k < sz) (hn : off + n ≤ sz) : j * sz + k < i * sz + off ∨ i * sz + off + n ≤ j * sz + k := by
  rcases Nat.lt_or_gt_of_ne hij with h | h
  · right
    have := Nat.mul_le_mul_right sz (show i + 1 ≤ j by omega)
    rw [Nat.add_mul] at this; omega
  · left
    have := Nat.mul_le_mul_right sz (show j + 1 ≤ i by omega)
    rw [Nat.add_mul] at this; omega

theorem zeroVals_length : ∀ t : Ty, (zeroVals t).length = t.size := by
  intro t
  induction t with
  | pair a b iha ihb => simp [zeroVals, Ty.size, iha, ihb]
  | _ => rfl

theorem cellsOf_size {t : Nat} {tys : List Ty} {agg : Bool} (ht : TabOk P tab) (hc : cellsOf tab t = some (tys, agg)) : (Ty.of tys).size = tys.length := by
  unfold cellsOf at hc
  split at hc
  · rename_i ty hl
    cases hc
    have h := ht.get hl
    cases ty <;> simp [TIOk] at h <;> rfl
  · rename_i ls fs hl
    cases hc
    have := (ht.get hl).2.2.1
    rwa [zeroVals_length] at this
  · cases hc; rfl
  · cases hc

def storeAcc' (tab : Tab) (nt : Nat) (t : Nat) (x y : Operand) : Acc Unit := opnd x fun u => opnd y fun v => storeAcc tab t u v

theorem store_sim {o : Oper} {t : Nat} {x y : Operand} (ho : o.op = .store t x y) (hd : o.dst = none) (ht : TabOk P tab) {nt : Nat} :
    Sim P C o (storeAcc' tab nt t x y) := by
  intro g st a w st' h hr K Q hk
  replace hr := opnd_run h hr; obtain ⟨u, hu, hr⟩ := hr
  replace hr := opnd_run h hr; obtain ⟨v, hv, hr⟩ := hr
  unfold storeAcc at hr
  split at hr
  · rename_i tys agg b off hc
    obtain ⟨ad, ha, hu⟩ := hu
    replace hr := leavesOf_run hv hr; obtain ⟨vs, hvs, hr⟩ := hr
    simp only [Acc.run] at hr
    split at hr
    · rename_i cs hb
      split at hr
      · rename_i hlen
        simp only [Acc.run, Option.some.injEq, Prod.mk.injEq, true_and] at hr
        obtain ⟨ad', ha', arr, ty, fr, k1, k2, k3⟩ := h.boxes b false cs hb
        rw [ha] at ha'; cases ha'
        obtain ⟨_, _, ⟨arr2, ty2, fr2, k4, k5⟩, _⟩ := h.rws b cs ad hb ha
        rw [k1] at k4; cases k4
        have hvl := AllRep.length hvs
        obtain ⟨w', arr', hrun, hst⟩ := run_storeVar (w := w) (o := ad.off + off) ht hc k1 (by rw [hvl]; omega) k5 (AllRep.one hvs) (by rw [hvl]; exact hlen.1)
        have hrel := h.storeBox (vs := vs) hb ha hst hvs (by rw [hlen.1]; exact hlen.2)
        rw [hlen.1] at hrel
        rw [hr] at hrel
        refine wp_skipv (w' := w') ?_ (hk g _ _ (by rw [hd]; exact hrel))
        simp [execOp, ho, hu, Instr.storeAt, Instr.sureAddr, hrun]
      · simp [Acc.run] at hr
    · simp [Acc.run] at hr
  · rename_i tys agg q sz i off hc
    obtain ⟨ad, len, cap, h1, h2, h3, h4, hu⟩ := hu
    replace hr := leavesOf_run hv hr; obtain ⟨vs, hvs, hr⟩ := hr
    replace hr := denOf_run h hvs hr; obtain ⟨z, rest, lbl, us1, us2, hus, hz, hrest, hlal, hr⟩ := hr
    split at hr
    · simp only [AllRep] at hrest
      subst hrest
      rw [List.append_nil] at hus
      replace hr := rdH_run h hr; obtain ⟨r, v', hq, hal, hd', hs, hr⟩ := hr
      rw [h1] at hd'; cases hd'
      split at hr
      · rename_i hcond
        obtain ⟨hsz, hoff, hap⟩ := hcond
        simp only at hr
        split at hr
        · rename_i x' hx'
          obtain ⟨st2, hb2, hr⟩ := bump_run hr
          split at hr
          · rename_i hap2
            simp only [Acc.run, Option.some.injEq, Prod.mk.injEq, true_and] at hr
            obtain ⟨A, c, hv', hc', hnone, hsome⟩ := hs
            cases hv'
            obtain ⟨hsp, ⟨p0, hp0, hlb0⟩, arr, ty, fr, hbk, hbd, hel⟩ := hsome ad rfl (by omega)
            have hi : i.toNat < r.xs.length := by omega
            have hwas := hb2.was p0 hp0
            obtain ⟨hexc, _, ⟨arr2, ty2, fr2, k4, k5⟩, _⟩ := h.muts ad.block p0.1 p0.2 hlb0 hwas
            rw [hbk] at k4; cases k4
            have hun : (a.eval y).cells.toList.length = tys.length := by
              rw [hus, DRep.length hz, cellsOf_size ht hc]
            have hone := AllRep.one hvs
            have hmul : i.toNat * r.e.size + r.e.size ≤ cap * r.e.size := by
              have := Nat.mul_le_mul_right r.e.size (show i.toNat + 1 ≤ cap by omega)
              rwa [Nat.add_mul, Nat.one_mul] at this
            obtain ⟨hrel2, hav⟩ := h.bumped hb2
            obtain ⟨w', arr', hrun, hst⟩ := run_storeVar (w := w) (b := ad.block) (o := ad.off + i.toNat * sz + off) ht hc hbk (by rw [hun, ← hsz]; rw [hsz] at *; omega) k5 hone hun
            have hrel3 := hrel2.storedMut hav hp0 hlb0 (hb2.now p0 hp0) hst
            have hinner : ∀ b', LB g r.inner b' → w'.heap[b']? = w.heap[b']? := fun b' hb' => by
              obtain ⟨p, hp, hpl⟩ := hb'
              refine hst.other b' fun e => ?_
              subst e
              exact apartL_spec hap p0 hp0 p hp (hexc p.1 hpl).symm
            have hlbl : ∀ b', LB g lbl b' → w'.heap[b']? = w.heap[b']? := fun b' hb' => by
              obtain ⟨p, hp, hpl⟩ := hb'
              refine hst.other b' fun e => ?_
              subst e
              exact apartL_spec hap2 (p0.1, p0.2 + 1) (List.mem_map.2 ⟨p0, hp0, rfl⟩) p hp (hexc p.1 hpl).symm
            have hsplit : ∀ (L : List (Nat × Nat)) b', LB g L b' → (∀ p, p ∈ L → p ∈ r.inner ++ lbl) → LB g (r.inner ++ lbl) b' := fun L b' hb' hL => by
              obtain ⟨p, hp, hpl⟩ := hb'; exact ⟨p, hL p hp, hpl⟩
            have hrel4 := hrel3.setH (id := q) (r := ⟨r.e, r.spine.map fun p => (p.1, p.2 + 1), r.inner ++ lbl, r.xs.set i.toNat x'⟩) h1
              (fun p hp => by
                rcases List.mem_append.1 hp with e | e
                · obtain ⟨p', hp', rfl⟩ := List.mem_map.1 e
                  exact ⟨true, _, hb2.now p' hp', Nat.le_refl _⟩
                · rcases List.mem_append.1 e with e | e
                  · obtain ⟨m, hm⟩ := hb2.keeps (apartL_spec hap) (fun q hq => hal q (by simp [hq])) p e
                    exact ⟨m, _, hm, Nat.le_refl _⟩
                  · obtain ⟨m, hm⟩ := hb2.keeps (fun x hx y hy => apartL_spec hap2 (x.1, x.2 + 1) (List.mem_map.2 ⟨x, hx, rfl⟩) y hy) hlal p e
                    exact ⟨m, _, hm, Nat.le_refl _⟩)
              (fun _ => by
                show SRep w' (LB g (r.spine.map fun p => (p.1, p.2 + 1))) (DRep w' (LB g (r.inner ++ lbl)) r.e) r.e.size (r.xs.set i.toNat x') _
                refine ⟨some ad, cap, by simp, by simpa using hc', fun e => (by cases e), fun ad' e _ => ?_⟩
                cases e
                refine ⟨hsp, ⟨(p0.1, p0.2 + 1), List.mem_map.2 ⟨p0, hp0, rfl⟩, hlb0⟩, arr', ty, fr, hst.now, by rw [hst.size]; exact hbd, fun j x hj => ?_⟩
                by_cases e : i.toNat = j
                · subst e
                  rw [List.getElem?_set_self hi] at hj
                  cases hj
                  obtain ⟨es, e1, e2, e3⟩ := hel i.toNat _ (List.getElem?_eq_getElem hi)
                  have hold : r.xs.getD i.toNat r.e.zero = r.xs[i.toNat] := by simp [List.getD, List.getElem?_eq_getElem hi]
                  rw [hold] at hx'
                  have hfu := flat_unflat _ _ _ _ hx'
                  rw [List.append_nil] at hfu
                  have hes := e3.flat
                  have h12 : off + tys.length ≤ es.length := by rw [e1]; omega
                  refine ⟨es.take off ++ (a.eval y).cells.toList ++ es.drop (off + tys.length), by rw [take_drop_length _ _ _ _ hun h12, e1], fun j v hj => ?_, DRep.of_flat ?_⟩
                  · rw [take_drop_get _ _ _ _ hun h12] at hj
                    split at hj
                    · rename_i hlt
                      have := e2 j v hj
                      rw [hst.out _ (.inl (by rw [← hsz]; omega))]; exact this
                    · split at hj
                      · rename_i hge hlt
                        have := hst.in_ _ _ hj
                        rwa [← hsz, show ad.off + i.toNat * r.e.size + off + (j - off) = ad.off + i.toNat * r.e.size + j by omega] at this
                      · have := e2 j v hj
                        rw [hst.out _ (.inr (by rw [hun, ← hsz]; omega))]; exact this
                  · rw [← hfu]
                    have hA := hes.sub 0 off
                    have hB := hes.sub (off + tys.length) es.length
                    simp only [List.drop_zero] at hA
                    have hB' : AllRep (LRep w (LB g r.inner)) ((flat r.e r.xs[i.toNat]).drop (off + tys.length)) (es.drop (off + tys.length)) := by
                      have hl := AllRep.length hes
                      rwa [List.take_of_length_le (by simp; omega), List.take_of_length_le (by simp)] at hB
                    refine AllRep.append (AllRep.append (hA.imp fun d v _ hv => hv.mono fun b' hb' => ⟨hsplit _ b' hb' (by simp +contextual), hinner b' hb'⟩) ?_) (hB'.imp fun d v _ hv => hv.mono fun b' hb' => ⟨hsplit _ b' hb' (by simp +contextual), hinner b' hb'⟩)
                    rw [hus]
                    exact hz.flat.imp fun d v _ hv => hv.mono fun b' hb' => ⟨hsplit _ b' hb' (by simp +contextual), hlbl b' hb'⟩
                · rw [List.getElem?_set_ne e] at hj
                  obtain ⟨es, e1, e2, e3⟩ := hel j x hj
                  refine ⟨es, e1, fun k v hk => ?_, e3.mono fun b' hb' => ⟨hsplit _ b' hb' (by simp +contextual), hinner b' hb'⟩⟩
                  have hksz : k < r.e.size := by rw [← e1]; exact (List.getElem?_eq_some_iff.1 hk).1
                  have hoff' : off + tys.length ≤ r.e.size := by omega
                  rw [hst.out _ (by
                    rw [hun, ← hsz]
                    have := mul_apart e hksz hoff'
                    omega)]
                  exact e2 k v hk)
            rw [hr] at hrel4
            refine wp_skipv (w' := w') ?_ (hk g _ _ (by rw [hd]; exact hrel4))
            simp [execOp, ho, hu, Instr.storeAt, Instr.sureAddr, hrun]
          · simp [Acc.run] at hr
        · simp [Acc.run] at hr
      · simp [Acc.run] at hr
    · simp [Acc.run] at hr
  · simp [Acc.run] at hr

end Go.Proofs.YtnnnpppodblblaaGreat.Ev
/-
append.
-/
namespace Go.Proofs.YtnnnpppodblblaaGreat.Ev
open Go

variable {P : Program} {C : Ctx} {g : Gh} {st st' : St} {a : Act} {w : World} {α : Type} {tab : Tab}

/-- All cells of a row, in order. -/
theorem SRep.cells {L0 : Nat → Prop} {β : Type} {E : β → List Value → Prop} {size : Nat} {xs : List β} {A : Option Addr} {n c : Nat} (hs : SRep w L0 E size xs (.slice A n c)) :
    ∃ us : List Value, us.length = n * size ∧ (∀ ad, A = some ad → ∀ j v, us[j]? = some v → w.cell? (ad.add j) = some v) ∧
      (∀ (i : Nat) (x : β), xs[i]? = some x → ∃ cs : List Value, cs.length = size ∧ (∀ (j : Nat) (u : Value), cs[j]? = some u → us[i * size + j]? = some u) ∧ E x cs) := by
  obtain ⟨A', c', hv, hc, hnone, hsome⟩ := hs
  simp only [Value.slice.injEq] at hv
  obtain ⟨rfl, rfl, rfl⟩ := hv
  cases A with
  | none =>
    have := hnone rfl
    have h0 : xs = [] := List.length_eq_zero_iff.1 (by omega)
    subst h0
    exact ⟨[], by simp, fun ad e => (by cases e), fun i x hx => by simp at hx⟩
  | some ad =>
    rcases Nat.eq_zero_or_pos c with hc0 | hc0
    · have h0 : xs = [] := List.length_eq_zero_iff.1 (by omega)
      subst h0
      exact ⟨[], by simp, fun ad _ j v hj => by simp at hj, fun i x hx => by simp at hx⟩
    obtain ⟨h1, h2, arr, ty, fr, h3, h4, h5⟩ := hsome ad rfl hc0
    have hle : xs.length * size ≤ c * size := Nat.mul_le_mul_right _ hc
    refine ⟨(List.range (xs.length * size)).map fun j => arr.getD (ad.off + j) undef, by simp, fun ad' e j v hj => ?_, fun i x hx => ?_⟩
    · cases e
      by_cases hjl : j < xs.length * size
      · have hlt : ad.off + j < arr.size := by omega
        simp [hjl, hlt] at hj
        rw [add_plain h1, cell_of h3]
        simp [hlt, hj]
      · simp [hjl] at hj
    · obtain ⟨cs, k1, k2, k3⟩ := h5 i x hx
      refine ⟨cs, k1, fun j u hj => ?_, k3⟩
      have hil : i < xs.length := (List.getElem?_eq_some_iff.1 hx).1
      have hjs : j < size := by rw [← k1]; exact (List.getElem?_eq_some_iff.1 hj).1
      have hmul : i * size + size ≤ xs.length * size := by
        have := Nat.mul_le_mul_right size (show i + 1 ≤ xs.length by omega)
        rwa [Nat.add_mul, Nat.one_mul] at this
      have hlt : i * size + j < xs.length * size := by omega
      have := k2 j u hj
      rw [Nat.add_assoc] at this
      have hlt2 : ad.off + (i * size + j) < arr.size := by omega
      simp [hlt, hlt2] at this ⊢
      exact this

theorem run_firstCells {size n : Nat} {A : Option Addr} {len cap : Nat} {us : List Value} (hl : us.length = n * size) (h : ∀ ad, A = some ad → ∀ j v, us[j]? = some v → w.cell? (ad.add j) = some v)
    (hn : A = none → us = []) : (Builtin.firstCells size n (.slice A len cap)).run P w = .ok us.toArray w := by
  cases A with
  | none => rw [hn rfl]; simp [Builtin.firstCells]
  | some ad => exact run_firstCells_some w size n ad len cap us hl (h ad rfl)

theorem run_append_in {t u ty e e' : TypeId} {i : TypeInfo} (ht : P.underlying t = some (.slice e)) (hu : P.underlying u = some (.slice e')) (hi : P.info? e = some i)
    {A B : Option Addr} {n c m c' : Nat} {news : List Value} (hl : news.length = m * i.size) (hnews : ∀ ad, B = some ad → ∀ j v, news[j]? = some v → w.cell? (ad.add j) = some v) (hB : B = none → news = [])
    (hc : n + m ≤ c) {w' : World} (hst : (match A with | some ad => storeCells (ad.add (n * i.size)) news | none => pure ()).run P w = .ok () w') :
    (Builtin.append_ #[t, u] ty #[.slice A n c, .slice B m c']).run P w = .ok (.slice A (n + m) c) w' := by
  have hf := run_firstCells (P := P) (len := m) (cap := c') hl hnews hB
  cases A with
  | none =>
    simp at hst; subst hst
    simp [Builtin.append_, run_underlying ht, run_underlying hu, sizeOf, typeInfo, hi, Builtin.lenOf, hc, hf]
  | some ad =>
    simp only at hst
    simp [Builtin.append_, run_underlying ht, run_underlying hu, sizeOf, typeInfo, hi, Builtin.lenOf, hc, hf, hst]

theorem run_append_out {t u ty e e' : TypeId} {i : TypeInfo} {z : Value} (ht : P.underlying t = some (.slice e)) (hu : P.underlying u = some (.slice e')) (hi : P.info? e = some i) (hz : i.zero = some z)
    {A B : Option Addr} {n c m c' : Nat} {olds news : List Value} (hlo : olds.length = n * i.size) (holds : ∀ ad, A = some ad → ∀ j v, olds[j]? = some v → w.cell? (ad.add j) = some v) (hA : A = none → olds = [])
    (hl : news.length = m * i.size) (hnews : ∀ ad, B = some ad → ∀ j v, news[j]? = some v → w.cell? (ad.add j) = some v) (hB : B = none → news = [])
    (hc : ¬ n + m ≤ c) (hpos : 0 < i.bytes) (hb : (n + m) * i.bytes ≤ 140737488355328) :
    (Builtin.append_ #[t, u] ty #[.slice A n c, .slice B m c']).run P w = .ok (.slice (some ⟨w.heap.size, 0, none⟩) (n + m) (grownCap w (n + m) c e))
      (w.drew.alloc (.cells (olds.toArray ++ news.toArray ++ Builtin.zeroCells z.cells (grownCap w (n + m) c e - (n + m))) e)) := by
  have hf := run_firstCells (P := P) (w := w.drew) (len := m) (cap := c') hl (by simpa using hnews) hB
  have hfo := run_firstCells (P := P) (w := w.drew) (len := n) (cap := c) hlo (by simpa using holds) hA
  have hle : n + m ≤ (n + m) * i.bytes := by simpa using Nat.mul_le_mul_left (n + m) hpos
  have h63 : ¬ (9223372036854775807 < ((n : Int) + (m : Int))) := by omega
  have hfit := growslice_fits (need := n + m) (old := c) (bytes := i.bytes) (by omega) hb
  have h48 : ¬ (281474976710656 < Builtin.nextslicecap (n + m) c * i.bytes) := by omega
  simp [Builtin.append_, run_underlying ht, run_underlying hu, sizeOf, typeInfo, zeroValue, hi, hz, Builtin.lenOf, hc, h63, h48, Question.forced, hf, hfo, newRow, grownCap]
  congr 2
  apply Array.ext'
  simp [List.append_assoc]

theorem grownCap_ge (w : World) (need old : Nat) (e : TypeId) : need ≤ grownCap w need old e := by
  simp [grownCap, Question.cut]

theorem zeroCells_size (z : Array Value) (n : Nat) : (Builtin.zeroCells z n).size = n * z.size := by simp [Builtin.zeroCells]

theorem sl_info {t e : Nat} {ty : Ty} {bytes : Nat} (h : TIOk P t (.sl e ty bytes)) : P.underlying t = some (.slice e) ∧ ∃ i z, P.info? e = some i ∧ i.zero = some z ∧ z.cells.size = ty.size ∧ i.size = ty.size ∧ i.bytes = bytes ∧ 0 < bytes ∧
    z.cells.toList = zeroVals ty := by
  obtain ⟨h1, _, h2, h3⟩ := h
  cases hi : P.info? e with
  | none => rw [hi] at h2; simp at h2
  | some i =>
    rw [hi] at h2
    simp at h2
    obtain ⟨⟨z, hz, hzc⟩, hs, hb⟩ := h2
    refine ⟨h1, i, z, rfl, hz, ?_, hs, hb, h3, by rw [hzc]⟩
    rw [hzc]; simp [zeroVals_length]

/-- A label that no block has yet. -/
theorem Rel.noLab (h : Rel C g st a w) {id : Nat} (hid : st (.lab id) = .no) : Rel C g (st.set (.lab id) (.ep true 0)) a w := by
  have slab : ∀ l m n, st (.lab l) = .ep m n → (st.set (.lab id) (.ep true 0)) (.lab l) = .ep m n := fun l m n hl => by
    rw [St.set_ne _ _ (by intro e; cases e; rw [hid] at hl; cases hl)]; exact hl
  have hal : ∀ q r, st (.hnd q) = .hr r → Alive (st.set (.lab id) (.ep true 0)) r → Alive st r := fun q r hq ha p hp => by
    obtain ⟨m, n, hm, _⟩ := h.hlabs q r hq p hp
    have : p.1 ≠ id := fun e => by rw [e, hid] at hm; cases hm
    have h1 := ha p hp
    rwa [St.set_ne _ _ (by simpa using this)] at h1
  exact { h with
    slots := fun n v' hn => by rw [St.lab_slot] at hn; exact h.slots n v' hn
    hnds := fun q r hq => by
      rw [St.lab_hnd] at hq
      obtain ⟨v, h1, h2⟩ := h.hnds q r hq
      exact ⟨v, h1, fun ha => h2 (hal q r hq ha)⟩
    boxes := fun b ro ls hq => by rw [St.lab_box] at hq; exact h.boxes b ro ls hq
    hdom := fun q u hq => by rw [St.lab_hnd]; exact h.hdom q u hq
    bdom := fun q u hq => by rw [St.lab_box]; exact h.bdom q u hq
    hlabs := fun q r hq p hp => by
      rw [St.lab_hnd] at hq
      obtain ⟨m, n, hm, hn⟩ := h.hlabs q r hq p hp
      exact ⟨m, n, slab _ _ _ hm, hn⟩
    labs := fun b l hq => by
      obtain ⟨⟨m, n, hm⟩, hlt⟩ := h.labs b l hq
      exact ⟨⟨m, n, slab _ _ _ hm⟩, hlt⟩
    muts := fun b l n hq hn => by
      obtain ⟨⟨m, n', hm⟩, hlt⟩ := h.labs b l hq
      rw [slab _ _ _ hm] at hn
      exact h.muts b l n hq (by rw [hm, hn])
    wins := fun q p lo sz hq => by rw [St.lab_win] at hq; exact h.wins q p lo sz hq
    rws := fun r ls ad hq ha => by rw [St.lab_box] at hq; exact h.rws r ls ad hq ha }

theorem mkL_run {id : Nat} {n : Acc α} {p : α × St} (hr : (mkL id n).run st = some p) : id < 10000000 ∧ st (.lab id) = .no ∧ n.run (st.set (.lab id) (.ep true 0)) = some p := by
  unfold mkL at hr
  split at hr
  · rename_i hid
    simp only [Acc.run] at hr
    split at hr
    · rename_i hno; exact ⟨hid, hno, hr⟩
    · simp [Acc.run] at hr
  · simp [Acc.run] at hr

theorem Bumped.slot {st2 : St} {l : List (Nat × Nat)} (hb : Bumped st st2 l) (n : Nat) : st2 (.slot n) = st (.slot n) := hb.other _ (fun p _ => by simp)

/-- What a row that grew reads as. -/
theorem SRep.grown {L0 L1 LX LY L' : Nat → Prop} {e : Ty} {xs ys : List e.den} {A B : Option Addr} {n c m c' : Nat} {w' : World} {b o cap : Nat} {arr : Array Value} {ty : TypeId} {fr : Nat × Nat}
    (hx : SRep w L0 (DRep w LX e) e.size xs (.slice A n c)) (hy : SRep w L1 (DRep w LY e) e.size ys (.slice B m c')) (us vs : List Value)
    (hus : ∀ (i : Nat) (x : e.den), xs[i]? = some x → ∃ cs : List Value, cs.length = e.size ∧ (∀ (j : Nat) (u : Value), cs[j]? = some u → us[i * e.size + j]? = some u) ∧ DRep w LX e x cs) (hul : us.length = n * e.size)
    (hvs : ∀ (i : Nat) (x : e.den), ys[i]? = some x → ∃ cs : List Value, cs.length = e.size ∧ (∀ (j : Nat) (u : Value), cs[j]? = some u → vs[i * e.size + j]? = some u) ∧ DRep w LY e x cs)
    (hb : w'.heap[b]? = some (.cells arr ty fr)) (hcap : o + cap * e.size ≤ arr.size) (hle : n + m ≤ cap) (hL' : L' b) {Lz : Nat → Prop}
    (h1 : ∀ (j : Nat) (v : Value), us[j]? = some v → arr[o + j]? = some v) (h2 : ∀ (j : Nat) (v : Value), vs[j]? = some v → arr[o + n * e.size + j]? = some v)
    (hX : ∀ b', LX b' → Lz b' ∧ w'.heap[b']? = w.heap[b']?) (hY : ∀ b', LY b' → Lz b' ∧ w'.heap[b']? = w.heap[b']?) :
    SRep w' L' (DRep w' Lz e) e.size (xs ++ ys) (.slice (some ⟨b, o, none⟩) (n + m) cap) := by
  obtain ⟨A', c1, hv, _⟩ := hx
  simp only [Value.slice.injEq] at hv
  obtain ⟨rfl, rfl, rfl⟩ := hv
  obtain ⟨B', c2, hv, _⟩ := hy
  simp only [Value.slice.injEq] at hv
  obtain ⟨rfl, rfl, rfl⟩ := hv
  refine ⟨some ⟨b, o, none⟩, cap, by simp, by simpa using hle, fun h => (by cases h), fun ad hA _ => ?_⟩
  cases hA
  refine ⟨rfl, hL', arr, ty, fr, hb, hcap, fun i x hi => ?_⟩
  by_cases hlt : i < xs.length
  · rw [List.getElem?_append_left hlt] at hi
    obtain ⟨cs, k1, k2, k3⟩ := hus i x hi
    refine ⟨cs, k1, fun j u hj => ?_, k3.mono hX⟩
    have := h1 _ _ (k2 j u hj)
    rwa [← Nat.add_assoc] at this
  · rw [List.getElem?_append_right (by omega)] at hi
    obtain ⟨cs, k1, k2, k3⟩ := hvs _ x hi
    refine ⟨cs, k1, fun j u hj => ?_, k3.mono hY⟩
    have := h2 _ _ (k2 j u hj)
    have e1 : xs.length * e.size + (i - xs.length) * e.size = i * e.size := by rw [← Nat.add_mul]; congr 1; omega
    rwa [show o + xs.length * e.size + ((i - xs.length) * e.size + j) = o + i * e.size + j by omega] at this

end Go.Proofs.YtnnnpppodblblaaGreat.Ev
/-
append, as an operation.
-/
namespace Go.Proofs.YtnnnpppodblblaaGreat.Ev
open Go

variable {P : Program} {C : Ctx} {g : Gh} {st st' : St} {a : Act} {w : World} {α : Type} {tab : Tab}

theorem DRep.one {L : Nat → Prop} : ∀ {t : Ty} {x : t.den} {cs : List Value}, DRep w L t x cs → ∀ v, v ∈ cs → v.oneCell = true := by
  intro t
  induction t with
  | pair a b iha ihb =>
    intro x cs h v hv
    obtain ⟨c1, c2, rfl, h1, h2⟩ := h
    rcases List.mem_append.1 hv with e | e
    · exact iha h1 v e
    · exact ihb h2 v e
  | sl e _ => intro x cs h v hv; obtain ⟨u, rfl, A, c, hu, _⟩ := h; simp at hv; subst hv; rw [hu]; rfl
  | unit => intro x cs h v hv; simp only [DRep] at h; subst h; simp at hv
  | _ => intro x cs h v hv; simp only [DRep] at h; subst h; simp at hv; subst hv; rfl

theorem rows_one {L : Nat → Prop} {e : Ty} {ys : List e.den} {m : Nat} {vs : List Value} (hm : ys.length = m) (hl : vs.length = m * e.size)
    (hvs : ∀ (i : Nat) (x : e.den), ys[i]? = some x → ∃ cs : List Value, cs.length = e.size ∧ (∀ (j : Nat) (u : Value), cs[j]? = some u → vs[i * e.size + j]? = some u) ∧ DRep w L e x cs) :
    ∀ v, v ∈ vs → v.oneCell = true := by
  intro v hv
  obtain ⟨j, hj⟩ := List.mem_iff_getElem?.1 hv
  have hjl : j < m * e.size := by rw [← hl]; exact (List.getElem?_eq_some_iff.1 hj).1
  have hpos : 0 < e.size := by
    rcases Nat.eq_zero_or_pos e.size with h | h
    · rw [h] at hjl; simp at hjl
    · exact h
  have hi : j / e.size < ys.length := by rw [hm]; exact (Nat.div_lt_iff_lt_mul hpos).2 hjl
  obtain ⟨cs, k1, k2, k3⟩ := hvs (j / e.size) _ (List.getElem?_eq_getElem hi)
  have hk : j % e.size < cs.length := by rw [k1]; exact Nat.mod_lt _ hpos
  have h2 := k2 (j % e.size) _ (List.getElem?_eq_getElem hk)
  rw [Nat.mul_comm, Nat.div_add_mod, hj] at h2
  cases h2
  exact k3.one _ (List.getElem_mem hk)

theorem append_core {st2 : St} (h : Rel C g st2 a w) {sX iX iY : List (Nat × Nat)} (hav : Avoids st2 sX) {e : Ty} {xs ys : List e.den} {L1 : Nat → Prop} {A B : Option Addr} {n c m c' : Nat}
    (hx : SRep w (LB g sX) (DRep w (LB g iX) e) e.size xs (.slice A n c)) (hy : SRep w L1 (DRep w (LB g iY) e) e.size ys (.slice B m c'))
    (hmut : ∀ p, p ∈ sX → st2 (.lab p.1) = .ep true (p.2 + 1)) (hap : ∀ p, p ∈ sX → ∀ q, q ∈ iX ++ iY → p.1 ≠ q.1)
    {t u ty te ue bytes ue' : Nat} {ut : Ty} (ht : TIOk P t (.sl te e bytes)) (hu : TIOk P u (.sl ue ut ue')) (hb : (xs.length + ys.length) * bytes ≤ 140737488355328)
    {id : Nat} (hid : id < 10000000) (hno : st2 (.lab id) = .no) :
    ∃ w' g' v, (Builtin.append_ #[t, u] ty #[.slice A n c, .slice B m c']).run P w = .ok v w' ∧ Rel C g' (st2.set (.lab id) (.ep true 0)) a w' ∧ GhExt g g' ∧ v.oneCell = true ∧
      SRep w' (LB g' ((sX.map fun p => (p.1, p.2 + 1)) ++ [(id, 0)])) (DRep w' (LB g' (iX ++ iY)) e) e.size (xs ++ ys) v := by
  obtain ⟨us, ul, uc, ur⟩ := hx.cells
  obtain ⟨vs, vl, vc, vr⟩ := hy.cells
  obtain ⟨t1, i, z, hi, hz, hzs, his, hib, hbp, _⟩ := sl_info ht
  obtain ⟨u1, _⟩ := sl_info hu
  have hxc := hx
  obtain ⟨A', c1, hv, hnc, hnone, hsome⟩ := hxc
  simp only [Value.slice.injEq] at hv
  obtain ⟨rfl, rfl, rfl⟩ := hv
  have hyc := hy
  obtain ⟨B', c2, hv, hmc, hnoneB, hsomeB⟩ := hyc
  simp only [Value.slice.injEq] at hv
  obtain ⟨rfl, rfl, rfl⟩ := hv
  have hAn : A = none → us = [] := fun hA => List.length_eq_zero_iff.1 (by have := hnone hA; have h0 : xs.length = 0 := by omega
                                                                           rw [ul, h0]; simp)
  have hBn : B = none → vs = [] := fun hB => List.length_eq_zero_iff.1 (by have := hnoneB hB; have h0 : ys.length = 0 := by omega
                                                                           rw [vl, h0]; simp)
  have hul : us.length = xs.length * i.size := by rw [his]; exact ul
  have hvl : vs.length = ys.length * i.size := by rw [his]; exact vl
  have hsub1 : ∀ b', LB g iX b' → LB g (iX ++ iY) b' := fun b' ⟨p, h1, h2⟩ => ⟨p, by simp [h1], h2⟩
  have hsub2 : ∀ b', LB g iY b' → LB g (iX ++ iY) b' := fun b' ⟨p, h1, h2⟩ => ⟨p, by simp [h1], h2⟩
  by_cases hfit : xs.length + ys.length ≤ c
  · cases A with
    | none =>
      have hc0 := hnone rfl
      have h1 : xs = [] := List.length_eq_zero_iff.1 (by omega)
      have h2 : ys = [] := List.length_eq_zero_iff.1 (by omega)
      subst h1; subst h2
      have hrun := run_append_in (P := P) (ty := ty) (c' := c') (w := w) (A := none) (n := 0) (w' := w) t1 u1 hi hvl vc hBn hfit (by simp)
      refine ⟨w, g, .slice none 0 c, by simpa using hrun, h.noLab hno, GhExt.refl g, rfl, ?_⟩
      subst hc0; exact SRep.nil
    | some ad =>
      rcases Nat.eq_zero_or_pos c with hc0 | hc0
      · have h1 : xs = [] := List.length_eq_zero_iff.1 (by omega)
        have h2 : ys = [] := List.length_eq_zero_iff.1 (by omega)
        subst h1; subst h2
        have hv0 : vs = [] := List.length_eq_zero_iff.1 (by rw [vl]; simp)
        have hrun := run_append_in (P := P) (ty := ty) (c' := c') (w := w) (A := some ad) (n := 0) (w' := w) t1 u1 hi hvl vc hBn hfit (by rw [hv0]; simp [storeCells])
        refine ⟨w, g, .slice (some ad) 0 c, by simpa using hrun, h.noLab hno, GhExt.refl g, rfl, ?_⟩
        exact ⟨some ad, c, by simp, by simp, fun e => (by cases e), fun _ _ e => by omega⟩
      obtain ⟨hsp, ⟨p0, hp0, hlb0⟩, arr, ty', fr, hbk, hbd, hel⟩ := hsome ad rfl hc0
      obtain ⟨hexc, _, ⟨arr2, ty2, fr2, k4, k5⟩, _⟩ := h.muts ad.block p0.1 _ hlb0 (hmut p0 hp0)
      rw [hbk] at k4; cases k4
      have hcm : xs.length * e.size + ys.length * e.size ≤ c * e.size := by rw [← Nat.add_mul]; exact Nat.mul_le_mul_right _ hfit
      obtain ⟨w', arr', hrun, hst⟩ := run_stored (P := P) ad.block (ad.off + xs.length * e.size) ty' fr vs 0 arr w hbk (by rw [vl]; omega) k5 (rows_one rfl vl vr)
      simp only [Nat.add_zero] at hst
      have hne : ∀ L, (∀ p, p ∈ L → p ∈ iX ++ iY) → ∀ b', LB g L b' → w'.heap[b']? = w.heap[b']? := fun L hL b' ⟨p, hp, hpl⟩ => hst.other b' fun e' => by
        subst e'; exact hap p0 hp0 p (hL p hp) (hexc p.1 hpl).symm
      have hrun2 := run_append_in (P := P) (ty := ty) (c' := c') (w := w) (A := some ad) (n := xs.length) (w' := w') t1 u1 hi hvl vc hBn hfit (by simp only; rw [add_plain hsp, his]; exact hrun)
      refine ⟨w', g, _, hrun2, (h.storedMut hav hp0 hlb0 (hmut p0 hp0) hst).noLab hno, GhExt.refl g, rfl, ?_⟩
      have hadeq : (some ad : Option Addr) = some ⟨ad.block, ad.off, none⟩ := by cases ad; simp at hsp; subst hsp; rfl
      rw [hadeq] at hx ⊢
      refine SRep.grown (us := us) (vs := vs) hx hy ur ul vr hst.now (by rw [hst.size]; exact hbd) hfit ⟨(p0.1, p0.2 + 1), List.mem_append_left _ (List.mem_map.2 ⟨p0, hp0, rfl⟩), hlb0⟩ (fun j v hj => ?_) (fun j v hj => hst.in_ j v hj)
        (fun b' hb' => ⟨hsub1 b' hb', hne iX (by simp +contextual) b' hb'⟩) (fun b' hb' => ⟨hsub2 b' hb', hne iY (by simp +contextual) b' hb'⟩)
      have := uc ad rfl j v hj
      rw [add_plain hsp, cell_of hbk] at this
      have hjl : j < us.length := (List.getElem?_eq_some_iff.1 hj).1
      rw [hst.out _ (.inl (by omega))]; exact this
  · have hgc := grownCap_ge w (xs.length + ys.length) c te
    have hrun := run_append_out (P := P) (ty := ty) (c' := c') (w := w) t1 u1 hi hz hul uc hAn hvl vc hBn hfit (by rw [hib]; exact hbp) (by rw [hib]; exact hb)
    have hzz := zeroCells_size z.cells (grownCap w (xs.length + ys.length) c te - (xs.length + ys.length))
    generalize hcap : grownCap w (xs.length + ys.length) c te = cap at *
    generalize hzc : Builtin.zeroCells z.cells (cap - (xs.length + ys.length)) = zc at *
    have hsz : (us.toArray ++ vs.toArray ++ zc).size = cap * e.size := by
      simp only [Array.size_append, List.size_toArray, ul, vl, hzz, hzs]
      rw [← Nat.add_mul, ← Nat.add_mul]
      congr 1; omega
    have hg1 : ∀ j v, us[j]? = some v → (us.toArray ++ vs.toArray ++ zc)[0 + j]? = some v := fun j v hj => by
      have hjl : j < us.length := (List.getElem?_eq_some_iff.1 hj).1
      rw [Nat.zero_add, Array.getElem?_append_left (by simp; omega), Array.getElem?_append_left (by simpa using hjl)]
      simpa using hj
    have hg2 : ∀ j v, vs[j]? = some v → (us.toArray ++ vs.toArray ++ zc)[0 + xs.length * e.size + j]? = some v := fun j v hj => by
      have hjl : j < vs.length := (List.getElem?_eq_some_iff.1 hj).1
      rw [Nat.zero_add, ← ul, Array.getElem?_append_left (by simp; omega), Array.getElem?_append_right (by simp)]
      simpa using hj
    generalize us.toArray ++ vs.toArray ++ zc = arr at *
    have hnew : (w.drew.alloc (.cells arr te)).heap[w.heap.size]? = some (.cells arr te) := push_new (w := w.drew)
    have hold : ∀ L b', LB g L b' → (w.drew.alloc (.cells arr te)).heap[b']? = w.heap[b']? := fun L b' ⟨p, hp, hpl⟩ => push_old (w := w.drew) (h.labs b' p.1 hpl).2
    have hrel : Rel C (g.addL id w.heap.size) (st2.set (.lab id) (.ep true 0)) a (w.drew.alloc (.cells arr te)) := h.drew.newLab hno (C.own id hid).2.1 arr te (0, 0) (fun o _ => by simp)
    refine ⟨_, g.addL id w.heap.size, _, hrun, hrel, Gh.addL_ext _ _ _, rfl, ?_⟩
    exact SRep.grown (us := us) (vs := vs) hx hy ur ul vr hnew (by rw [hsz]; omega) hgc ⟨(id, 0), by simp, .inr ⟨rfl, rfl⟩⟩ hg1 hg2
      (fun b' hb' => ⟨LB.ext (Gh.addL_ext _ _ _) (hsub1 b' hb'), hold _ b' hb'⟩) (fun b' hb' => ⟨LB.ext (Gh.addL_ext _ _ _) (hsub2 b' hb'), hold _ b' hb'⟩)

def appendOp (tab : Tab) (nt : Nat) (d : Option Nat) (t u : Nat) (x y : Operand) : Acc Unit :=
  opnd x fun vx => oneLeaf vx fun lx => opnd y fun vy => oneLeaf vy fun ly =>
    match tab.lookup t, tab.lookup u, d with
    | some (.sl _ e bytes), some (.sl _ e' _), some d => if e' = e then leafXs ly e fun ys _ yin => appendAcc e bytes nt d lx ys yin else .fail
    | _, _, _ => .fail

theorem append_sim {o : Oper} {t u : Nat} {x y : Operand} (ho : o.op = .call ⟨.builtin .append, #[x, y], #[t, u]⟩) (ht : TabOk P tab) {nt : Nat} (hn : nt = C.nt) :
    Sim P C o (appendOp tab nt o.dst t u x y) := by
  intro g st a w st' h hr K Q hk
  replace hr := opnd_run h hr; obtain ⟨vx, hvx, hr⟩ := hr
  replace hr := oneLeaf_run hvx hr; obtain ⟨lx, hlx, hr⟩ := hr
  replace hr := opnd_run h hr; obtain ⟨vy, hvy, hr⟩ := hr
  replace hr := oneLeaf_run hvy hr; obtain ⟨ly, hly, hr⟩ := hr
  split at hr
  · rename_i te e bytes ue e' ub d h1 h2 hd
    split at hr
    · replace hr := leafXs_run h hly hr; obtain ⟨ys, ysp, yin, hy, hyal, hr⟩ := hr
      obtain ⟨B, c', hyv⟩ := hy.slice
      rw [hyv] at hy
      have exec : ∀ v w', (Builtin.append_ #[t, u] o.type #[a.eval x, a.eval y]).run P w = .ok v w' → (execOp a.eval o).run P w = .ok (.value v) w' := fun v w' hv => by
        simp [execOp, ho, resolve, invoke, builtin, hv]
      unfold appendAcc at hr
      split at hr
      · simp only [LeafRep] at hlx
        simp only [Acc.run] at hr
        cases hb : decide (ys.length * bytes ≤ 140737488355328) <;> rw [hb] at hr <;> simp only [cond_true, cond_false, Acc.run] at hr
        · cases hr
        · replace hb := of_decide_eq_true hb
          replace hr := mkL_run hr; obtain ⟨hid, hno, hr⟩ := hr
          obtain ⟨w', g', v, hrun, hrel, hext, hone, hs⟩ := append_core (P := P) (w := w) (iX := []) (sX := []) (xs := ([] : List e.den)) (ty := o.type) h (fun q r hq ha p hp x hx => by simp at hx) SRep.nil hy (fun p hp => by simp at hp) (fun p hp => by simp at hp) (ht.get h1) (ht.get h2) (by simpa using hb) hid hno
          replace hr := mkH_run (v := v) hrel (fun q hq => by
            rcases List.mem_append.1 hq with e1 | e1
            · simp at e1; subst e1; exact ⟨true, 0, St.set_same _ _ _, Nat.le_refl _⟩
            · obtain ⟨m, hm⟩ := hyal q (by simp; exact .inr e1)
              exact ⟨m, _, by rw [St.set_ne _ _ (by intro e2; injection e2 with e2; rw [e2, hno] at hm; cases hm)]; exact hm, Nat.le_refl _⟩) (fun _ => by simpa using hs) hr
          obtain ⟨hrel2, hext2, hr⟩ := hr
          exact wp_value (exec v w' (by rw [hlx, hyv]; exact hrun)) (hk _ _ _ (put_run hrel2 hn (rep_hd hone) (by rw [hd]; exact hr)))
      · rename_i q
        replace hr := rdH_run h hr; obtain ⟨r, v', hq, hal, hgd, hs0, hr⟩ := hr
        have hvx' : a.eval x = v' := by have := hlx.1; rw [hgd] at this; exact (Option.some.inj this).symm
        split at hr
        · rename_i he
          cases r with
          | mk re sp inn rxs =>
          simp only at he; subst he
          simp only at hr hs0
          split at hr
          · rename_i hap
            simp only [Acc.run] at hr
            cases hb : decide ((rxs.length + ys.length) * bytes ≤ 140737488355328) <;> rw [hb] at hr <;> simp only [cond_true, cond_false, Acc.run] at hr
            · cases hr
            · replace hb := of_decide_eq_true hb
              replace hr := bump_run hr; obtain ⟨st2, hb2, hr⟩ := hr
              obtain ⟨hrel0, hav⟩ := h.bumped hb2
              replace hr := mkL_run hr; obtain ⟨hid, hno, hr⟩ := hr
              obtain ⟨A, c, hxv⟩ := hs0.slice
              rw [hxv] at hs0
              have hap' := apartL_spec hap
              obtain ⟨w', g', v, hrun, hrel, hext, hone, hs⟩ := append_core (P := P) (w := w) (ty := o.type) hrel0 hav hs0 hy hb2.now hap' (ht.get h1) (ht.get h2) hb hid hno
              replace hr := mkH_run (v := v) hrel (fun q hq => by
                have keep : ∀ q m n, st2 (.lab q) = .ep m n → (st2.set (.lab (64 * d)) (.ep true 0)) (.lab q) = .ep m n := fun q m n hm => by
                  rw [St.set_ne _ _ (by intro e2; injection e2 with e2; rw [e2, hno] at hm; cases hm)]; exact hm
                simp only at hq
                rcases List.mem_append.1 hq with e1 | e1
                · rcases List.mem_append.1 e1 with e1 | e1
                  · obtain ⟨p', hp', rfl⟩ := List.mem_map.1 e1
                    exact ⟨true, _, keep _ _ _ (hb2.now p' hp'), Nat.le_refl _⟩
                  · simp at e1; subst e1; exact ⟨true, 0, St.set_same _ _ _, Nat.le_refl _⟩
                · rcases List.mem_append.1 e1 with e1 | e1
                  · obtain ⟨m, hm⟩ := hb2.keeps hap' (s := inn ++ yin) (fun q hq => by
                      rcases List.mem_append.1 hq with e2 | e2
                      · exact hal q (by simp; exact .inr e2)
                      · exact hyal q (by simp; exact .inr e2)) q (by simp [e1])
                    exact ⟨m, _, keep _ _ _ hm, Nat.le_refl _⟩
                  · obtain ⟨m, hm⟩ := hb2.keeps hap' (s := inn ++ yin) (fun q hq => by
                      rcases List.mem_append.1 hq with e2 | e2
                      · exact hal q (by simp; exact .inr e2)
                      · exact hyal q (by simp; exact .inr e2)) q (by simp [e1])
                    exact ⟨m, _, keep _ _ _ hm, Nat.le_refl _⟩) (fun _ => hs) hr
              obtain ⟨hrel2, hext2, hr⟩ := hr
              exact wp_value (exec v w' (by rw [hvx', hxv, hyv]; exact hrun)) (hk _ _ _ (put_run hrel2 hn (rep_hd hone) (by rw [hd]; exact hr)))
          · simp [Acc.run] at hr
        · simp [Acc.run] at hr
      · simp [Acc.run] at hr
    · simp [Acc.run] at hr
  · simp [Acc.run] at hr

end Go.Proofs.YtnnnpppodblblaaGreat.Ev
/-
Slices and structs that are built; min, max; bytes and strings.
-/
namespace Go.Proofs.YtnnnpppodblblaaGreat.Ev
open Go

variable {P : Program} {C : Ctx} {g : Gh} {st st' : St} {a : Act} {w : World} {α : Type} {tab : Tab}

theorem fold_set (off : Nat) : ∀ (l : List Value) (k : Nat) (cs : Array Value), off + k + l.length ≤ cs.size →
    ((l.zipIdx k).foldl (fun cs p => cs.setIfInBounds (off + p.2) p.1) cs).toList = cs.toList.take (off + k) ++ l ++ cs.toList.drop (off + k + l.length) := by
  intro l
  induction l with
  | nil => intro k cs _; simp
  | cons v r ih =>
    intro k cs h
    simp only [List.zipIdx_cons, List.foldl_cons]
    rw [ih (k + 1) _ (by simp at h ⊢; omega)]
    simp only [Array.toList_setIfInBounds, List.length_cons]
    have hlt : off + k < cs.toList.length := by simp at h ⊢; omega
    apply List.ext_getElem?
    intro j
    have h1 := take_drop_get (cs.toList.set (off + k) v) r (off + (k + 1)) r.length rfl (by simp at h ⊢; omega) j
    have h2 := take_drop_get cs.toList (v :: r) (off + k) (r.length + 1) rfl (by simp at h ⊢; omega) j
    rw [h1, show off + k + (r.length + 1) = off + k + (r.length + 1) from rfl, h2]
    by_cases e1 : j < off + k
    · rw [if_pos (by omega), if_pos e1, List.getElem?_set_ne (by omega)]
    · rw [if_neg e1]
      by_cases e2 : j = off + k
      · subst e2
        rw [if_pos (by omega), if_pos (by omega), List.getElem?_set_self hlt]
        simp
      · rw [if_neg (by omega)]
        by_cases e3 : j < off + k + (r.length + 1)
        · rw [if_pos (by omega), if_pos e3]
          rw [show j - (off + k) = (j - (off + (k + 1))) + 1 by omega]
          simp
        · rw [if_neg (by omega), if_neg e3, List.getElem?_set_ne (by omega)]

theorem fill_cons {place : Nat → Option (Nat × Nat)} {cells : Array Value} {i off size : Nat} {v : Value} {rest : List (Nat × Value)} (hp : place i = some (off, size)) (hs : v.cells.toList.length = size)
    (hl : off + size ≤ cells.toList.length) : Instr.fill place cells ((i, v) :: rest) = Instr.fill place (cells.toList.take off ++ v.cells.toList ++ cells.toList.drop (off + size)).toArray rest := by
  have h1 : v.cells.size = size := by simpa using hs
  have h2 : ¬ (off + v.cells.size > cells.size) := by simp at hl; omega
  have hf := fold_set off v.cells.toList 0 cells (by simp at hl hs ⊢; omega)
  rw [hs, Nat.add_zero] at hf
  have hfold : v.cells.zipIdx.foldl (fun cs x => match x with | (c, j) => cs.setIfInBounds (off + j) c) cells = (cells.toList.take off ++ v.cells.toList ++ cells.toList.drop (off + size)).toArray := by
    apply Array.ext'
    rw [← hf, ← Array.foldl_toList, Array.toList_zipIdx]
  simp only [Instr.fill, hp, h1]
  simp only [ne_eq, not_true_eq_false, decide_false, Bool.false_or, decide_eq_true_eq]
  rw [if_neg (by rw [h1] at h2; exact h2), hfold]

/-- A slice literal's cells. -/
theorem fill_rows (size : Nat) : ∀ (vs : List Value) (i0 : Nat) (cells : Array Value), (∀ v, v ∈ vs → v.cells.toList.length = size) → (i0 + vs.length) * size ≤ cells.toList.length →
    ∃ cells', Instr.fill (fun i => some (i * size, size)) cells ((vs.zipIdx i0).map fun p => (p.2, p.1)) = some cells' ∧ cells'.toList.length = cells.toList.length ∧
      (∀ k v, vs[k]? = some v → ∀ j, j < size → cells'.toList[(i0 + k) * size + j]? = v.cells.toList[j]?) ∧ (∀ j, j < i0 * size → cells'.toList[j]? = cells.toList[j]?) := by
  intro vs
  induction vs with
  | nil => intro i0 cells _ _; exact ⟨cells, rfl, rfl, fun k v h => by simp at h, fun _ _ => rfl⟩
  | cons v r ih =>
    intro i0 cells hv hl
    have hvs := hv v (by simp)
    have e1 : (i0 + (r.length + 1)) * size = i0 * size + size + r.length * size := by rw [Nat.add_mul, Nat.add_mul, Nat.one_mul]; omega
    have hl1 : i0 * size + size ≤ cells.toList.length := by simp only [List.length_cons] at hl; omega
    simp only [List.zipIdx_cons, List.map_cons]
    rw [fill_cons (place := fun i => some (i * size, size)) rfl hvs hl1]
    have hlen := take_drop_length cells.toList v.cells.toList (i0 * size) size hvs hl1
    obtain ⟨cells', h1, h2, h3, h4⟩ := ih (i0 + 1) (cells.toList.take (i0 * size) ++ v.cells.toList ++ cells.toList.drop (i0 * size + size)).toArray (fun u hu => hv u (by simp [hu])) (by
      simp only [List.length_cons] at hl
      rw [show i0 + 1 + r.length = i0 + (r.length + 1) by omega, List.toList_toArray, hlen]
      exact hl)
    have hg := take_drop_get cells.toList v.cells.toList (i0 * size) size hvs hl1
    have e2 : (i0 + 1) * size = i0 * size + size := by rw [Nat.add_mul, Nat.one_mul]
    refine ⟨cells', h1, by rw [h2]; simpa using hlen, fun k u hk j hj => ?_, fun j hj => ?_⟩
    · cases k with
      | zero =>
        simp at hk; subst hk
        rw [Nat.add_zero, h4 _ (by omega)]
        simp only [List.toList_toArray] at hg ⊢
        rw [hg, if_neg (by omega), if_pos (by omega)]
        congr 1; omega
      | succ k =>
        simp at hk
        have := h3 k u hk j hj
        rwa [show i0 + 1 + k = i0 + (k + 1) by omega] at this
    · rw [h4 _ (by omega)]
      simp only [List.toList_toArray] at hg ⊢
      rw [hg, if_pos hj]

theorem elems_run {t : Ty} : ∀ {ps : List (Nat × Operand)} {i : Nat} {k : List t.den → List (Nat × Nat) → Acc α} {p : α × St}, Rel C g st a w → (elemsAcc t i ps k).run st = some p →
    ∃ ys lbl, ps.map (fun q => (q.1, a.eval q.2)) = ((ps.map fun q => a.eval q.2).zipIdx i).map (fun q => (q.2, q.1)) ∧ ys.length = ps.length ∧
      (∀ (k : Nat) (y : t.den), ys[k]? = some y → ∃ v, (ps.map fun q => a.eval q.2)[k]? = some v ∧ DRep w (LB g lbl) t y v.cells.toList) ∧
      (∀ v, v ∈ ps.map (fun q => a.eval q.2) → v.cells.toList.length = t.size) ∧ (∀ q, q ∈ lbl → ∃ m, st (.lab q.1) = .ep m q.2) ∧ (k ys lbl).run st = some p := by
  intro ps
  induction ps with
  | nil => intro i k p h hr; exact ⟨[], [], rfl, rfl, fun k y hk => by simp at hk, fun v hv => by simp at hv, fun q hq => by simp at hq, hr⟩
  | cons q r ih =>
    intro i k p h hr
    obtain ⟨j, x⟩ := q
    simp only [elemsAcc] at hr
    split at hr
    · rename_i hji
      subst hji
      replace hr := opnd_run h hr; obtain ⟨u, hu, hr⟩ := hr
      replace hr := leavesOf_run hu hr; obtain ⟨ls, hls, hr⟩ := hr
      replace hr := denOf_run h hls hr; obtain ⟨y, rest, l1, us1, us2, hus, hy, hrest, hal, hr⟩ := hr
      split at hr
      · simp only [AllRep] at hrest
        subst hrest
        rw [List.append_nil] at hus
        replace hr := ih h hr; obtain ⟨ys, l2, e1, e2, e3, e4, e5, hr⟩ := hr
        refine ⟨y :: ys, l1 ++ l2, ?_, by simp [e2], fun k z hk => ?_, fun v hv => ?_, fun q hq => ?_, hr⟩
        · simp only [List.map_cons, List.zipIdx_cons, e1]
        · cases k with
          | zero =>
            simp at hk; subst hk
            exact ⟨a.eval x, by simp, by rw [hus]; exact hy.mono fun b ⟨z, h1, h2⟩ => ⟨⟨z, by simp [h1], h2⟩, rfl⟩⟩
          | succ k =>
            simp at hk
            obtain ⟨v, h1, h2⟩ := e3 k z hk
            exact ⟨v, by simpa using h1, h2.mono fun b ⟨z, h1, h2⟩ => ⟨⟨z, by simp [h1], h2⟩, rfl⟩⟩
        · simp only [List.map_cons, List.mem_cons] at hv
          rcases hv with rfl | hv
          · rw [hus]; exact hy.length
          · exact e4 v hv
        · rcases List.mem_append.1 hq with e | e
          · exact hal q e
          · exact e5 q e
      · simp [Acc.run] at hr
    · simp [Acc.run] at hr

def buildSliceAcc (tab : Tab) (nt : Nat) (d : Option Nat) (t len : Nat) (ps : List (Nat × Operand)) : Acc Unit :=
  match tab.lookup t, d with
  | some (.sl _ e _), some d => if ps.length = len ∧ len * e.size ≤ 16777216 then
      elemsAcc e 0 ps fun ys lbl => mkL (64 * d) (mkH (64 * d) ⟨e, [(64 * d, 0)], lbl, ys⟩ (put nt (some d) (.val (.leaf (.sl (64 * d))))))
    else .fail
  | _, _ => .fail

/-- A new row, with its label. -/
theorem newRow_rel (h : Rel C g st a w) {id : Nat} (hid : id < 10000000) (hno : st (.lab id) = .no) {e : Ty} {ys : List e.den} {lbl : List (Nat × Nat)} {cap : Nat} (hcap : ys.length ≤ cap) {arr : Array Value} (ty : TypeId)
    (hsz : arr.size = cap * e.size) (hel : ∀ (i : Nat) (x : e.den), ys[i]? = some x → ∃ cs : List Value, cs.length = e.size ∧ (∀ (j : Nat) (u : Value), cs[j]? = some u → arr[i * e.size + j]? = some u) ∧ DRep w (LB g lbl) e x cs) :
    Rel C (g.addL id w.heap.size) (st.set (.lab id) (.ep true 0)) a { w with heap := w.heap.push (.cells arr ty) } ∧
    SRep { w with heap := w.heap.push (.cells arr ty) } (LB (g.addL id w.heap.size) [(id, 0)]) (DRep { w with heap := w.heap.push (.cells arr ty) } (LB (g.addL id w.heap.size) lbl) e) e.size ys (.slice (some ⟨w.heap.size, 0, none⟩) ys.length cap) := by
  refine ⟨h.newLab hno (C.own id hid).2.1 arr ty (0, 0) (fun o _ => by simp), some ⟨w.heap.size, 0, none⟩, cap, rfl, hcap, fun e => (by cases e), fun ad hA _ => ?_⟩
  cases hA
  refine ⟨rfl, ⟨(id, 0), by simp, .inr ⟨rfl, rfl⟩⟩, arr, ty, (0, 0), push_new, by simp [hsz], fun i x hi => ?_⟩
  obtain ⟨cs, k1, k2, k3⟩ := hel i x hi
  refine ⟨cs, k1, fun j u hj => by simpa using k2 j u hj, k3.mono fun b ⟨p, hp, hpl⟩ => ⟨⟨p, hp, .inl hpl⟩, push_old (h.labs b p.1 hpl).2⟩⟩

theorem mkLH_run {id : Nat} {e : Ty} {ys : List e.den} {lbl : List (Nat × Nat)} {n : Acc α} {p : α × St} (h : Rel C g st a w) (hal : ∀ q, q ∈ lbl → ∃ m, st (.lab q.1) = .ep m q.2) {cap : Nat} (hcap : ys.length ≤ cap) {arr : Array Value} (ty : TypeId)
    (hsz : arr.size = cap * e.size) (hel : ∀ (i : Nat) (x : e.den), ys[i]? = some x → ∃ cs : List Value, cs.length = e.size ∧ (∀ (j : Nat) (u : Value), cs[j]? = some u → arr[i * e.size + j]? = some u) ∧ DRep w (LB g lbl) e x cs)
    (hr : (mkL id (mkH id ⟨e, [(id, 0)], lbl, ys⟩ n)).run st = some p) :
    ∃ g' st2, Rel C (Gh.addH g' id (.slice (some ⟨w.heap.size, 0, none⟩) ys.length cap)) st2 a { w with heap := w.heap.push (.cells arr ty) } ∧ n.run st2 = some p := by
  obtain ⟨hid, hno, hr⟩ := mkL_run hr
  obtain ⟨h1, h2⟩ := newRow_rel h hid hno hcap ty hsz hel
  obtain ⟨h3, _, hr⟩ := mkH_run (v := .slice (some ⟨w.heap.size, 0, none⟩) ys.length cap) h1 (fun q hq => by
    simp only [List.cons_append, List.nil_append, List.mem_cons] at hq
    rcases hq with rfl | hq
    · exact ⟨true, 0, St.set_same _ _ _, Nat.le_refl _⟩
    · obtain ⟨m, hm⟩ := hal q hq
      exact ⟨m, _, by rw [St.set_ne _ _ (by intro e2; injection e2 with e2; rw [e2, hno] at hm; cases hm)]; exact hm, Nat.le_refl _⟩) (fun _ => h2) hr
  exact ⟨_, _, h3, hr⟩

theorem buildSlice_sim {o : Oper} {t len : Nat} {parts : Array (Nat × Operand)} (ho : o.op = .buildSlice t len parts) (ht : TabOk P tab) {nt : Nat} (hn : nt = C.nt) :
    Sim P C o (buildSliceAcc tab nt o.dst t len parts.toList) := by
  intro g st a w st' h hr K Q hk
  unfold buildSliceAcc at hr
  split at hr
  · rename_i te e by' d hl hd
    split at hr
    · rename_i hcond
      obtain ⟨hlen, hsmall⟩ := hcond
      replace hr := elems_run h hr; obtain ⟨ys, lbl, e1, e2, e3, e4, e5, hr⟩ := hr
      obtain ⟨t1, i, z, hi, hz, hzs, his, _⟩ := sl_info (ht.get hl)
      have hzero : ((Array.range (len * e.size)).map (fun x => (if len * e.size = 0 then (#[] : Array Value) else z.cells)[x % (if len * e.size = 0 then (#[] : Array Value) else z.cells).size]!)).toList.length = len * e.size := by simp
      obtain ⟨cells', f1, f2, f3, _⟩ := fill_rows e.size (parts.toList.map fun q => a.eval q.2) 0 ((Array.range (len * e.size)).map (fun x => (if len * e.size = 0 then (#[] : Array Value) else z.cells)[x % (if len * e.size = 0 then (#[] : Array Value) else z.cells).size]!)) e4 (by
        rw [hzero, Nat.zero_add, List.length_map, hlen]; exact Nat.le_refl _)
      rw [← e1] at f1
      have hy : ys.length = len := by rw [e2, hlen]
      obtain ⟨g', st2, hrel, hr⟩ := mkLH_run h e5 (cap := len) (by omega) te (arr := cells') (by have := f2; simp at this ⊢; exact this) (fun i x hx => by
        obtain ⟨v, v1, v2⟩ := e3 i x hx
        refine ⟨v.cells.toList, v2.length, fun j u hj => ?_, v2⟩
        have hjl : j < e.size := by rw [← v2.length]; exact (List.getElem?_eq_some_iff.1 hj).1
        have := f3 i v v1 j hjl
        rw [Nat.zero_add] at this
        rw [← Array.getElem?_toList, this]; exact hj) hr
      refine wp_value (v := .slice (some ⟨w.heap.size, 0, none⟩) ys.length len) (w' := { w with heap := w.heap.push (.cells cells' te) }) ?_ (hk _ _ _ (put_run hrel hn (rep_hd rfl) (by rw [hd]; exact hr)))
      have hns : ¬ (len * i.size > 2 ^ 24) := by rw [his]; omega
      have hpm : (parts.map fun x => (x.1, a.eval x.2)).toList = parts.toList.map fun q => (q.1, a.eval q.2) := by simp
      have hf1 : Instr.fill (fun i => some (i * e.size, e.size)) ((Array.range (len * e.size)).map (fun x => (if len * e.size = 0 then (#[] : Array Value) else z.cells)[x % (if len * e.size = 0 then (#[] : Array Value) else z.cells).size]!)) (parts.map fun x => (x.1, a.eval x.2)).toList = some cells' := by rw [hpm]; exact f1
      by_cases h0 : len * e.size = 0
      · simp only [h0, if_true] at hf1
        rw [his] at hns
        simp [execOp, ho, Instr.buildSlice, underlying, t1, sizeOf, typeInfo, hi, zeroValue, his, h0, newRow]
        simp at hf1
        rw [hf1]
        simp [hy]
      · simp only [h0, if_false] at hf1
        rw [his] at hns
        simp [execOp, ho, Instr.buildSlice, underlying, t1, sizeOf, typeInfo, hi, hz, zeroValue, his, h0, newRow]
        simp at hf1 hns
        rw [hf1]
        simp [hy, hns]
    · simp [Acc.run] at hr
  · simp [Acc.run] at hr

end Go.Proofs.YtnnnpppodblblaaGreat.Ev
/-
make, structs that are built and compared, min, max, bytes and strings.
-/
namespace Go.Proofs.YtnnnpppodblblaaGreat.Ev
open Go

variable {P : Program} {C : Ctx} {g : Gh} {st st' : St} {a : Act} {w : World} {α : Type} {tab : Tab}

theorem zero_DRep {L : Nat → Prop} : ∀ (t : Ty), DRep w L t t.zero (zeroVals t) := by
  intro t
  induction t with
  | pair a b iha ihb => exact ⟨_, _, rfl, iha, ihb⟩
  | sl e _ => exact ⟨_, rfl, SRep.nil⟩
  | _ => rfl

def makeAcc (tab : Tab) (nt : Nat) (d : Option Nat) (t : Nat) (l c : Operand) : Acc Unit :=
  match tab.lookup t, d with
  | some (.sl _ e by'), some d => opnd l fun vl => asInt vl fun nl => opnd c fun vc => asInt vc fun nc =>
    .br (decide (0 ≤ nl) && (decide (nl ≤ nc) && decide (nc * by' ≤ 140737488355328)))
      (mkL (64 * d) (mkH (64 * d) ⟨e, [(64 * d, 0)], [], List.replicate nl.toNat e.zero⟩ (put nt (some d) (.val (.leaf (.sl (64 * d))))))) .fail
  | _, _ => .fail

theorem wrap_i64 {n : Int} (h0 : 0 ≤ n) (h1 : n ≤ 140737488355328) : IntKind.i64.wrap n = n := by
  simp [IntKind.wrap, IntKind.bits, IntKind.signed]
  split <;> omega

theorem make_sim {o : Oper} {t : Nat} {l c : Operand} (ho : o.op = .makeSlice t l c) (ht : TabOk P tab) {nt : Nat} (hn : nt = C.nt) : Sim P C o (makeAcc tab nt o.dst t l c) := by
  intro g st a w st' h hr K Q hk
  unfold makeAcc at hr
  split at hr
  · rename_i te e by' d hl hd
    replace hr := opnd_run h hr; obtain ⟨vl, hvl, hr⟩ := hr
    replace hr := asInt_run hvl hr; obtain ⟨kl, nl, hnl, hr⟩ := hr
    replace hr := opnd_run h hr; obtain ⟨vc, hvc, hr⟩ := hr
    replace hr := asInt_run hvc hr; obtain ⟨kc, nc, hnc, hr⟩ := hr
    simp only [Acc.run] at hr
    cases hb : (decide (0 ≤ nl) && (decide (nl ≤ nc) && decide (nc * by' ≤ 140737488355328))) <;> rw [hb] at hr <;> simp only [cond_true, cond_false, Acc.run] at hr
    · cases hr
    · simp only [Bool.and_eq_true, decide_eq_true_eq] at hb
      obtain ⟨h0, h1, h2⟩ := hb
      obtain ⟨t1, i, z, hi, hz, hzs, his, hib, hbp, hzc⟩ := sl_info (ht.get hl)
      have hnc0 : 0 ≤ nc := by omega
      have hncl : nc ≤ nc * by' := by
        have : nc * 1 ≤ nc * (by' : Int) := Int.mul_le_mul_of_nonneg_left (by omega) hnc0
        omega
      have hnc47 : nc ≤ 140737488355328 := by omega
      have w1 := wrap_i64 h0 (by omega : nl ≤ 140737488355328)
      have w2 := wrap_i64 hnc0 hnc47
      have hmul : (by' : Int) * nc ≤ 140737488355328 := by rw [Int.mul_comm]; exact h2
      have harr : ∀ (Z : Array Value), ((Array.range (nc.toNat * i.size)).map (fun x => Z[x % Z.size]!)).size = nc.toNat * e.size := fun Z => by simp [his]
      obtain ⟨g', st2, hrel, hr⟩ := mkLH_run h (fun q hq => by simp at hq) (cap := nc.toNat) (by simp; omega) te
        (arr := (Array.range (nc.toNat * i.size)).map (fun x => (if nc.toNat * i.size = 0 then (#[] : Array Value) else z.cells)[x % (if nc.toNat * i.size = 0 then (#[] : Array Value) else z.cells).size]!)) (harr _) (fun k x hx => by
          have hkl : k < nl.toNat := by have := (List.getElem?_eq_some_iff.1 hx).1; simpa using this
          have hx' : x = e.zero := by simp [List.getElem?_replicate, hkl] at hx; exact hx.symm
          subst hx'
          refine ⟨zeroVals e, zeroVals_length e, fun j u hj => ?_, zero_DRep e⟩
          have hjl : j < e.size := by rw [← zeroVals_length e]; exact (List.getElem?_eq_some_iff.1 hj).1
          have hlt : k * e.size + j < nc.toNat * e.size := by
            have := Nat.mul_le_mul_right e.size (show k + 1 ≤ nc.toNat by omega)
            rw [Nat.add_mul, Nat.one_mul] at this; omega
          have hne : ¬ nc.toNat * i.size = 0 := by rw [his]; omega
          have hmod : (k * e.size + j) % e.size = j := by rw [Nat.mul_comm, Nat.mul_add_mod]; exact Nat.mod_eq_of_lt hjl
          rw [← hzc] at hj
          have hzl : j < z.cells.size := by rw [hzs]; exact hjl
          simp only [hne, if_false]
          rw [Array.getElem?_toList, Array.getElem?_eq_getElem hzl] at hj
          simp at hj
          have hj2 : z.cells[j]! = u := by rw [getElem!_pos z.cells j hzl]; exact hj
          simp [his, hlt, hzs, hmod, hj2]) hr
      refine wp_value (v := .slice (some ⟨w.heap.size, 0, none⟩) nl.toNat nc.toNat) (w' := _) ?_ (hk _ _ _ (put_run hrel hn (by have := rep_hd (g := g') (id := 64 * d) (v := .slice (some ⟨w.heap.size, 0, none⟩) (List.replicate nl.toNat e.zero).length nc.toNat) rfl; simpa using this) (by rw [hd]; simpa using hr)))
      have c1 : ¬ nc < 0 := by omega
      have c2 : ¬ nl < 0 := by omega
      have c3 : ¬ nc < nl := by omega
      have c4 : ¬ (281474976710656 < (by' : Int) * nc) := by omega
      by_cases hz0 : nc.toNat * i.size = 0
      · simp [execOp, ho, hnl, hnc, Instr.makeSlice, underlying, t1, Go.asInt, asIntOf, typeInfo, hi, hib, w1, w2, c1, c2, c3, c4, sizeOf, hz0, newRow]
      · simp [execOp, ho, hnl, hnc, Instr.makeSlice, underlying, t1, Go.asInt, asIntOf, typeInfo, hi, hib, w1, w2, c1, c2, c3, c4, sizeOf, hz0, newRow, zeroValue, hz]
  · simp [Acc.run] at hr

/-! ### structs -/
def buildAcc (tab : Tab) (nt : Nat) (d : Option Nat) (t : Nat) (ps : List (Nat × Operand)) : Acc Unit :=
  match tab.lookup t with
  | some (.st ls fs) => fillAcc fs ps (zeroLeaf (Ty.of ls)) fun vs => put nt d (.val (.agg vs))
  | _ => .fail

theorem fillAcc_run {fs : List (Nat × Nat × Nat)} {k : List Leaf → Acc α} {p : α × St} (h : Rel C g st a w) : ∀ {ps : List (Nat × Operand)} {ls : List Leaf} {cells : Array Value}, AllRep (LeafRep g) ls cells.toList → (fillAcc fs ps ls k).run st = some p →
    ∃ cells' ls', Instr.fill ((fs.map fun q => (q.1, q.2.1)).toArray[·]?) cells (ps.map fun q => (q.1, a.eval q.2)) = some cells' ∧ AllRep (LeafRep g) ls' cells'.toList ∧ (k ls').run st = some p := by
  intro ps
  induction ps with
  | nil => intro ls cells hc hr; exact ⟨cells, ls, rfl, hc, hr⟩
  | cons q r ih =>
    intro ls cells hc hr
    obtain ⟨i, x⟩ := q
    simp only [fillAcc] at hr
    replace hr := opnd_run h hr; obtain ⟨v, hv, hr⟩ := hr
    replace hr := leavesOf_run hv hr; obtain ⟨vs, hvs, hr⟩ := hr
    split at hr
    · rename_i off size tid hf
      split at hr
      · rename_i hcond
        have hvl := AllRep.length hvs
        have hcl := AllRep.length hc
        have hpl : ((fs.map fun q => (q.1, q.2.1)).toArray[i]?) = some (off, size) := by simp [hf]
        have h1 : AllRep (LeafRep g) (ls.take off ++ vs ++ ls.drop (off + size)) (cells.toList.take off ++ (a.eval x).cells.toList ++ cells.toList.drop (off + size)) := by
          have hA := hc.sub 0 off
          have hB := hc.sub (off + size) ls.length
          simp only [List.drop_zero] at hA
          rw [List.take_of_length_le (by simp), List.take_of_length_le (by rw [List.length_drop]; omega)] at hB
          exact (hA.append hvs).append hB
        obtain ⟨cells', ls', k1, k2, k3⟩ := ih (cells := (cells.toList.take off ++ (a.eval x).cells.toList ++ cells.toList.drop (off + size)).toArray) (by simpa using h1) hr
        refine ⟨cells', ls', ?_, k2, k3⟩
        simp only [List.map_cons]
        rw [fill_cons (place := ((fs.map fun q => (q.1, q.2.1)).toArray[·]?)) hpl (by rw [hvl]; exact hcond.1) (by rw [hcl]; exact hcond.2)]
        exact k1
      · simp [Acc.run] at hr
    · simp [Acc.run] at hr

theorem places_of {fields : Array Field} {fs : List (Nat × Nat × Nat)} (h : fields.toList.map (fun f => (f.offset, (P.info? f.type).map (·.size), f.type)) = fs.map (fun p => (p.1, some p.2.1, p.2.2))) :
    fields.toList.mapM (fun f => (P.info? f.type).map fun i => (f.offset, i.size)) = some (fs.map fun q => (q.1, q.2.1)) := by
  generalize fields.toList = l at *
  induction l generalizing fs with
  | nil => cases fs with
    | nil => rfl
    | cons _ _ => simp at h
  | cons f r ih =>
    cases fs with
    | nil => simp at h
    | cons q qs =>
      simp only [List.map_cons, List.cons.injEq, Prod.mk.injEq] at h
      obtain ⟨⟨e1, e2, e3⟩, hr⟩ := h
      cases hi : P.info? f.type with
      | none => rw [hi] at e2; simp at e2
      | some i =>
        rw [hi] at e2; simp at e2
        simp [List.mapM_cons, hi, ih hr, e1, e2]

theorem build_sim {o : Oper} {t : Nat} {parts : Array (Nat × Operand)} (ho : o.op = .build t parts) (ht : TabOk P tab) {nt : Nat} (hn : nt = C.nt) : Sim P C o (buildAcc tab nt o.dst t parts.toList) := by
  intro g st a w st' h hr K Q hk
  unfold buildAcc at hr
  split at hr
  · rename_i ls fs hl
    obtain ⟨⟨fields, h1, h2⟩, h3, _, _⟩ := ht.get hl
    cases hi : P.info? t with
    | none => rw [hi] at h3; simp at h3
    | some i =>
      rw [hi] at h3; simp at h3
      obtain ⟨hz, hs⟩ := h3
      obtain ⟨cells', ls', k1, k2, hr⟩ := fillAcc_run h (cells := (zeroVals (Ty.of ls)).toArray) (by simpa using zero_rep (Ty.of ls)) hr
      refine wp_value (v := .agg cells') (w' := w) ?_ (hk _ _ _ (put_run h hn (show SVRep g (.val (.agg ls')) (.agg cells') from ⟨cells', rfl, k2⟩) hr))
      have hb : P.built t (parts.map fun x => (x.1, a.eval x.2)).toList = some cells' := by
        have hpm : (parts.map fun x => (x.1, a.eval x.2)).toList = parts.toList.map fun q => (q.1, a.eval q.2) := by simp
        simp only [Program.built, hi, h1, hz, places_of h2, hpm]
        exact k1
      have := run_build (P := P) w t (parts.map fun x => (x.1, a.eval x.2)) cells' hb
      simp [execOp, ho, this]
  · simp [Acc.run] at hr

/-! ### min, max -/
def mmAcc (nt : Nat) (d : Option Nat) (mx : Bool) (xs : List Operand) : Acc Unit := scArgs xs fun ss => match minMax mx ss with | some s => put nt d (.val (.leaf (.sc s))) | none => .fail

theorem scArgs_run {k : List Sc → Acc α} {p : α × St} (h : Rel C g st a w) : ∀ {xs : List Operand} {k : List Sc → Acc α}, (scArgs xs k).run st = some p → ∃ ss, xs.map a.eval = ss.map Sc.val ∧ (k ss).run st = some p := by
  intro xs
  induction xs with
  | nil => intro k hr; exact ⟨[], rfl, hr⟩
  | cons x r ih =>
    intro k hr
    simp only [scArgs] at hr
    replace hr := opnd_run h hr; obtain ⟨v, hv, hr⟩ := hr
    replace hr := asSc_run hv hr; obtain ⟨s, hs, hr⟩ := hr
    obtain ⟨ss, h1, hr⟩ := ih hr
    exact ⟨s :: ss, by simp [hs, h1], hr⟩

theorem mm_sim {o : Oper} {mx : Bool} {xs ts : Array _} (ho : o.op = .call ⟨.builtin (if mx then .max else .min), xs, ts⟩) {nt : Nat} (hn : nt = C.nt) : Sim P C o (mmAcc nt o.dst mx xs.toList) := by
  intro g st a w st' h hr K Q hk
  obtain ⟨ss, h1, hr⟩ := scArgs_run (k := fun ss => match minMax mx ss with | some s => put nt o.dst (.val (.leaf (.sc s))) | none => .fail) h hr
  have hx : xs.map a.eval = (ss.map Sc.val).toArray := by apply Array.ext'; simpa using h1
  split at hr
  · rename_i s hs
    refine wp_value (v := s.val) (w' := w) ?_ (hk _ _ _ (put_run h hn (rep_sc g s) hr))
    unfold minMax at hs
    split at hs
    · split at hs
      · rename_i k a1 k' b1 e; subst e
        cases hs
        cases mx <;> simp [execOp, ho, resolve, invoke, builtin, hx, Builtin.min_, Builtin.max_, Builtin.min2, Builtin.max2, Sc.val, List.foldlM]
      · cases hs
    · split at hs
      · rename_i k a1 k' b1 k'' c1 e
        obtain ⟨e1, e2⟩ := e; subst e1; subst e2
        cases hs
        cases mx <;> simp [execOp, ho, resolve, invoke, builtin, hx, Builtin.min_, Builtin.max_, Builtin.min2, Builtin.max2, Sc.val, List.foldlM]
      · cases hs
    · cases hs
  · simp [Acc.run] at hr

/-! ### bytes -/
def strOfAcc (tab : Tab) (nt : Nat) (d : Option Nat) (src dst : Nat) (x : Operand) : Acc Unit :=
  opnd x fun v => oneLeaf v fun l =>
    match tab.lookup src, tab.lookup dst with
    | some (.sl e (.int .u8) _), some (.sc .str) => if tab.lookup e = none then .fail else leafXs l (.int .u8) fun xs _ _ => put nt d (.val (.leaf (.sc (.str (strOfNums xs)))))
    | _, _ => .fail

end Go.Proofs.YtnnnpppodblblaaGreat.Ev
/-
A string of bytes; structs compared.
-/
namespace Go.Proofs.YtnnnpppodblblaaGreat.Ev
open Go

variable {P : Program} {C : Ctx} {g : Gh} {st st' : St} {a : Act} {w : World} {α : Type} {tab : Tab}

def strOfAcc' (tab : Tab) (nt : Nat) (d : Option Nat) (src dst : Nat) (x : Operand) : Acc Unit :=
  opnd x fun v => oneLeaf v fun l =>
    match tab.lookup src, tab.lookup dst with
    | some (.sl e (.int .u8) _), some (.sc .str) =>
      match tab.lookup e with
      | some (.sc (.int .u8)) => leafXs l (.int .u8) fun xs _ _ => put nt d (.val (.leaf (.sc (.str (strOfNums xs)))))
      | _ => .fail
    | _, _ => .fail

theorem strOf_sim {o : Oper} {s t : Nat} {x : Operand} (ho : o.op = .convert s t x) (ht : TabOk P tab) {nt : Nat} (hn : nt = C.nt) :
    Sim P C o (strOfAcc' tab nt o.dst s t x) := by
  intro g st a w st' h hr K Q hk
  replace hr := opnd_run h hr; obtain ⟨u, hu, hr⟩ := hr
  replace hr := oneLeaf_run hu hr; obtain ⟨l, hl, hr⟩ := hr
  split at hr
  · rename_i e by' h1 h2
    split at hr
    · rename_i h3
      replace hr := leafXs_run h hl hr; obtain ⟨xs, sp, inn, hs, hal, hr⟩ := hr
      obtain ⟨u1, _⟩ := sl_info (ht.get h1)
      have u2 := (ht.get h2).1
      have u3 := (ht.get h3).1
      obtain ⟨A, c, hv, hc, hnone, hsome⟩ := hs
      refine wp_value (v := .string (strOfNums xs)) (w' := w) ?_ (hk _ _ _ (put_run h hn (rep_str g _) hr))
      cases A with
      | none =>
        have h0 : xs = [] := List.length_eq_zero_iff.1 (by have := hnone rfl; omega)
        subst h0
        have := run_convert_bytes_nil (P := P) w s e u1 u3 0 c t u2
        simp [execOp, ho, hv, this, strOfNums]
        rfl
      | some ad =>
        rcases Nat.eq_zero_or_pos c with hc0 | hc0
        · have h0 : xs = [] := List.length_eq_zero_iff.1 (by omega)
          subst h0
          have : (convert s t (.slice (some ad) 0 c)).run P w = .ok (.string (strOfNums [])) w := by
            simp [convert, underlying, u1, u2, u3, loadCells, loadCellsFrom, strOfNums, Conv.bytesToString]
            rfl
          simp only [List.length_nil] at hv
          simp [execOp, ho, hv, this]
        obtain ⟨hsp, _, arr, ty, fr, hb, hbd, hel⟩ := hsome ad rfl hc0
        have hadeq : ad = ⟨ad.block, ad.off, none⟩ := by cases ad; simp at hsp; subst hsp; rfl
        have := run_convert_bytes_arg (P := P) w s e u1 u3 ad.block ad.off xs.length c xs rfl (fun i hi => by
          obtain ⟨cs, k1, k2, k3⟩ := hel i _ (List.getElem?_eq_getElem hi)
          simp only [DRep] at k3
          subst k3
          have := k2 0 _ rfl
          rw [cell_of hb]
          simp only [Ty.size, Nat.mul_one, Nat.add_zero] at this
          simp [List.getD, List.getElem?_eq_getElem hi, this]) t u2
        rw [hadeq] at hv
        simp [execOp, ho, hv, this]
    · simp [Acc.run] at hr
  · simp [Acc.run] at hr

/-! ### structs compared -/
def EqOk (P : Program) (t : Nat) : Prop := P.stoodInHeld t = false ∧ P.eqGuardType P.depth t = false ∧ ∀ fields, P.underlying t = some (.struct fields) → fields.toList.all (fun f => f.name != "_") = true

def scEqT : Ty → Sc → Sc → Option Bool
  | .int _, .int k a, .int k' b => if k = k' then some (a == b) else none
  | .bool, .bool a, .bool b => some (a == b)
  | .str, .str a, .str b => some (a.toList == b.toList)
  | _, _, _ => none

/-- Field by field; each field is one scalar. -/
def leavesEqT (tab : Tab) : Nat → List (Nat × Nat × Nat) → List Leaf → List Leaf → Option Bool
  | _, [], [], [] => some true
  | i, p :: r, .sc a :: l1, .sc b :: l2 =>
    if p.1 = i then
      match tab.lookup p.2.2 with
      | some (.sc ty) => (scEqT ty a b).bind fun x => (leavesEqT tab (i + 1) r l1 l2).map fun y => x && y
      | _ => none
    else none
  | _, _, _, _ => none

def eqAcc (tab : Tab) (eqs : List Nat) (nt : Nat) (d : Option Nat) (neg : Bool) (t : Nat) (x y : Operand) : Acc Unit :=
  opnd x fun u => opnd y fun v =>
    match tab.lookup t, u, v with
    | some (.st ls fs), .val (.agg l1), .val (.agg l2) =>
      if t ∈ eqs then
        match leavesEqT tab 0 fs l1 l2 with
        | some b => put nt d (.val (.leaf (.sc (.bool (if neg then !b else b)))))
        | none => .fail
      else .fail
    | _, _, _ => .fail

theorem eqFields_run (ht : TabOk P tab) (d : Nat) {xs ys : Array Value} : ∀ {fs : List (Nat × Nat × Nat)} {fields : List Field} {i : Nat} {l1 l2 : List Leaf} {b : Bool},
    fields.map (fun f => (f.offset, f.type)) = fs.map (fun p => (p.1, p.2.2)) → fields.all (fun f => f.name != "_") = true →
    AllRep (LeafRep g) l1 (xs.toList.drop i) → AllRep (LeafRep g) l2 (ys.toList.drop i) → leavesEqT tab i fs l1 l2 = some b → (Op.eqFields (d + 1) xs ys fields).run P w = .ok b w := by
  intro fs
  induction fs with
  | nil =>
    intro fields i l1 l2 b hf _ _ _ hb
    cases fields with
    | nil =>
      cases l1 with
      | nil => cases l2 with
        | nil => simp [leavesEqT] at hb; subst hb; simp [Op.eqFields]
        | cons _ _ => simp [leavesEqT] at hb
      | cons _ _ => simp [leavesEqT] at hb
    | cons _ _ => simp at hf
  | cons p r ih =>
    intro fields i l1 l2 b hf hn hx hy hb
    cases fields with
    | nil => simp at hf
    | cons f fr =>
      simp only [List.map_cons, List.cons.injEq, Prod.mk.injEq] at hf
      obtain ⟨⟨e1, e2⟩, hf⟩ := hf
      simp only [List.all_cons, Bool.and_eq_true] at hn
      match l1, l2, hx, hy, hb with
      | .sc s1 :: r1, .sc s2 :: r2, hx, hy, hb =>
        obtain ⟨v1, q1, hq1, hv1, hx'⟩ := hx
        obtain ⟨v2, q2, hq2, hv2, hy'⟩ := hy
        simp only [leavesEqT] at hb
        split at hb
        · rename_i e3
          split at hb
          · rename_i ty hty
            simp only [Option.bind_eq_some_iff, Option.map_eq_some_iff] at hb
            obtain ⟨b1, hb1, b2, hb2, hb⟩ := hb
            have g1 : xs[i]? = some v1 := by
              have := congrArg (fun l => l[0]?) hq1
              simpa using this
            have g2 : ys[i]? = some v2 := by
              have := congrArg (fun l => l[0]?) hq2
              simpa using this
            have t1 : xs.toList.drop (i + 1) = q1 := by rw [← List.drop_drop, hq1]; rfl
            have t2 : ys.toList.drop (i + 1) = q2 := by rw [← List.drop_drop, hq2]; rfl
            have hrest := ih hf hn.2 (by rw [t1]; exact hx') (by rw [t2]; exact hy') hb2
            have hne : f.name ≠ "_" := by simpa using hn.1
            obtain ⟨ds, hds, hcase⟩ := sc_desc (ht.get hty)
            have hag : (isAgg f.type).run P w = .ok false w := by
              rw [e2]
              rcases hcase with ⟨k, _, rfl⟩ | ⟨_, rfl⟩ | ⟨_, rfl⟩ <;> simp [isAgg, underlying, hds]
            have hp1 : (part f.type xs f.offset).run P w = .ok v1 w := by simp [part, hag, e1, e3, g1]
            have hp2 : (part f.type ys f.offset).run P w = .ok v2 w := by simp [part, hag, e1, e3, g2]
            simp only [LeafRep] at hv1 hv2
            have heq : (Op.equalIn (d + 1) f.type v1 v2).run P w = .ok b1 w := by
              rw [e2, hv1, hv2]
              rcases hcase with ⟨k, rfl, rfl⟩ | ⟨rfl, rfl⟩ | ⟨rfl, rfl⟩
              · cases s1 <;> cases s2 <;> simp only [scEqT] at hb1 <;> try (cases hb1; done)
                split at hb1
                · rename_i hk; subst hk; cases hb1; exact run_equalIn_int w d _ _ _ _ _ hds
                · cases hb1
              · cases s1 <;> cases s2 <;> simp only [scEqT] at hb1 <;> try (cases hb1; done)
                cases hb1; exact Go.run_equalIn_bool' w d _ _ _ hds
              · cases s1 <;> cases s2 <;> simp only [scEqT] at hb1 <;> try (cases hb1; done)
                cases hb1; exact run_equalIn_string w d _ _ _ hds
            subst hb
            simp only [Op.eqFields, if_pos hne, Sem.run_bind, hp1, hp2, heq, Result.andThen_ok]
            cases b1
            · simp
            · simpa using hrest
          · cases hb
        · cases hb
      | [], _, hx, hy, hb => simp [leavesEqT] at hb
      | .dead :: _, _, hx, hy, hb => simp [leavesEqT] at hb
      | .nil :: _, _, hx, hy, hb => simp [leavesEqT] at hb
      | .sl _ :: _, _, hx, hy, hb => simp [leavesEqT] at hb
      | .sc _ :: _, [], hx, hy, hb => simp [leavesEqT] at hb
      | .sc _ :: _, .dead :: _, hx, hy, hb => simp [leavesEqT] at hb
      | .sc _ :: _, .nil :: _, hx, hy, hb => simp [leavesEqT] at hb
      | .sc _ :: _, .sl _ :: _, hx, hy, hb => simp [leavesEqT] at hb

theorem eq_sim {o : Oper} {t t' : Nat} {x y : Operand} {neg : Bool} {eqs : List Nat} (ho : o.op = .binOp (if neg then .neq else .eql) t x y t') (ht : TabOk P tab) (he : ∀ t, t ∈ eqs → EqOk P t) {nt : Nat} (hn : nt = C.nt) :
    Sim P C o (eqAcc tab eqs nt o.dst neg t x y) := by
  intro g st a w st' h hr K Q hk
  replace hr := opnd_run h hr; obtain ⟨u, hu, hr⟩ := hr
  replace hr := opnd_run h hr; obtain ⟨v, hv, hr⟩ := hr
  split at hr
  · rename_i ls fs l1 l2 hl
    split at hr
    · rename_i hmem
      obtain ⟨q1, q2, q3⟩ := he t hmem
      split at hr
      · rename_i b hb
        obtain ⟨xs, hxs, hx⟩ := hu
        obtain ⟨ys, hys, hy⟩ := hv
        obtain ⟨⟨fields, h1, h2⟩, _, _, _⟩ := ht.get hl
        have hfo : P.fieldsOf t = fields := by simp [Program.fieldsOf, h1]
        have hmap : fields.toList.map (fun f => (f.offset, f.type)) = fs.map (fun p => (p.1, p.2.2)) := by
          have := congrArg (List.map fun q : Nat × Option Nat × Nat => (q.1, q.2.2)) h2
          simpa [List.map_map, Function.comp_def] using this
        have hrun : (Op.equalIn 10000 t (.agg xs) (.agg ys)).run P w = .ok b w := by
          rw [run_equalIn_agg w 9999 t xs ys (by rw [hfo]; exact h1) q1, hfo]
          exact eqFields_run ht 9998 hmap (q3 fields h1) (i := 0) (by simpa using hx) (by simpa using hy) hb
        refine wp_value (v := .bool (if neg then !b else b)) (w' := w) ?_ (hk _ _ _ (put_run h hn (rep_bool g _) hr))
        cases neg
        · have h3 := run_eql_struct (P := P) w t xs ys
          simp [execOp, ho, hxs, hys, run_eqGuard_agg w _ t x y xs ys q2, h3, hrun]
        · have h3 := run_neq_struct (P := P) w t xs ys
          simp [execOp, ho, hxs, hys, run_eqGuard_agg w _ t x y xs ys q2, h3, hrun]
      · simp [Acc.run] at hr
    · simp [Acc.run] at hr
  · simp [Acc.run] at hr

/-! ### clear of the end of a row -/
def clearAcc (tab : Tab) (t : Nat) (x : Operand) : Acc Unit :=
  opnd x fun v =>
    match tab.lookup t, v with
    | some (.sl _ e _), .val (.leaf (.sl q)) => .rd (.win q) fun
      | .wn p lo sz => rdH p fun r =>
        if r.e = e ∧ sz = e.size ∧ apartL r.spine r.inner = true then
          bump r.spine fun sp => .wr (.hnd p) (.hr ⟨r.e, sp, r.inner, r.xs.take lo ++ List.replicate (r.xs.length - lo) r.e.zero⟩) (.done ())
        else .fail
      | _ => .fail
    | _, _ => .fail

theorem zeroCells_get {z : Array Value} {e : Ty} (hz : z.toList = zeroVals e) {n m j : Nat} {v : Value} (hm : m < n) (hv : (zeroVals e)[j]? = some v) : (Builtin.zeroCells z n).toList[m * e.size + j]? = some v := by
  have hzs : z.size = e.size := by rw [← Array.length_toList, hz, zeroVals_length]
  have hjl : j < e.size := by rw [← zeroVals_length e]; exact (List.getElem?_eq_some_iff.1 hv).1
  have hlt : m * e.size + j < n * e.size := by
    have := Nat.mul_le_mul_right e.size (show m + 1 ≤ n by omega)
    rw [Nat.add_mul, Nat.one_mul] at this; omega
  have hmod : (m * e.size + j) % e.size = j := by rw [Nat.mul_comm, Nat.mul_add_mod]; exact Nat.mod_eq_of_lt hjl
  have hzl : j < z.size := by rw [hzs]; exact hjl
  rw [← hz, Array.getElem?_toList, Array.getElem?_eq_getElem hzl] at hv
  have hv : z[j] = v := Option.some.inj hv
  have hj2 : z[j]! = v := by rw [getElem!_pos z j hzl]; exact hv
  simp [Builtin.zeroCells, hzs, hlt, hmod, hj2]

theorem clear_sim {o : Oper} {t : Nat} {x : Operand} (ho : o.op = .call ⟨.builtin .clear, #[x], #[t]⟩) (hd : o.dst = none) (ht : TabOk P tab) : Sim P C o (clearAcc tab t x) := by
  intro g st a w st' h hr K Q hk
  unfold clearAcc at hr
  replace hr := opnd_run h hr; obtain ⟨u, hu, hr⟩ := hr
  split at hr
  · rename_i te e by' q hl
    simp only [Acc.run] at hr
    split at hr
    · rename_i p lo sz hw
      obtain ⟨A, len, cap, hp, hq, hlo, hcap⟩ := h.wins q p lo sz hw
      replace hr := rdH_run h hr; obtain ⟨r, v', hst, hal, hv', hs, hr⟩ := hr
      split at hr
      · rename_i hcond
        obtain ⟨he, hsz, hap⟩ := hcond
        subst he; subst hsz
        obtain ⟨st2, hb2, hr⟩ := bump_run hr
        simp only [Acc.run, Option.some.injEq, Prod.mk.injEq, true_and] at hr
        rw [hp] at hv'; cases hv'
        obtain ⟨A', c', hv', hc', hnone, hsome⟩ := hs
        simp only [Value.slice.injEq] at hv'
        obtain ⟨rfl, rfl, rfl⟩ := hv'
        obtain ⟨t1, i, z, hi, hz, hzs, his, hib, hbp, hzc⟩ := sl_info (ht.get hl)
        have hxv : a.eval x = .slice (if cap = lo then A else A.map (·.add (lo * r.e.size))) (r.xs.length - lo) (cap - lo) := by
          have := (show LeafRep g (.sl q) _ from hu).1
          rw [hq] at this; exact (Option.some.inj this).symm
        obtain ⟨hrel2, hav⟩ := h.bumped hb2
        have hlabs : ∀ p, p ∈ (r.spine.map fun p => (p.1, p.2 + 1)) ++ r.inner → ∃ m n, st2 (.lab p.1) = .ep m n ∧ p.2 ≤ n := fun p hp => by
          rcases List.mem_append.1 hp with e | e
          · obtain ⟨p', hp', rfl⟩ := List.mem_map.1 e
            exact ⟨true, _, hb2.now p' hp', Nat.le_refl _⟩
          · obtain ⟨m, hm⟩ := hb2.keeps (apartL_spec hap) (fun q hq => hal q (by simp [hq])) p e
            exact ⟨m, _, hm, Nat.le_refl _⟩
        have hzc' : z.cells.toList = zeroVals r.e := by rw [hzc]
        by_cases hn0 : r.xs.length - lo = 0
        · have hlo' : lo = r.xs.length := by omega
          have hxs : r.xs.take lo ++ List.replicate (r.xs.length - lo) r.e.zero = r.xs := by rw [hlo']; simp
          rw [hxs] at hr
          have hrel3 := hrel2.setH (id := p) (r := ⟨r.e, r.spine.map fun p => (p.1, p.2 + 1), r.inner, r.xs⟩) hp hlabs (fun _ => by
            refine ⟨A, cap, rfl, hc', hnone, fun ad e e0 => ?_⟩
            obtain ⟨k1, k2, arr, ty, fr, k3, k4, k5⟩ := hsome ad e e0
            refine ⟨k1, ?_, arr, ty, fr, k3, k4, k5⟩
            obtain ⟨y, y1, y2⟩ := k2
            exact ⟨(y.1, y.2 + 1), List.mem_map.2 ⟨y, y1, rfl⟩, y2⟩)
          rw [hr] at hrel3
          refine wp_value (v := .tuple #[]) (w' := w) ?_ (hk g _ _ (by rw [hd]; exact hrel3))
          have hA : (Builtin.clear_ #[t] o.type #[.slice (if cap = lo then A else A.map (·.add (lo * r.e.size))) 0 (cap - lo)]).run P w = .ok (.tuple #[]) w := by
            cases (if cap = lo then A else A.map (·.add (lo * r.e.size))) <;> simp [Builtin.clear_, underlying, t1]
          rw [hn0] at hxv
          simp [execOp, ho, resolve, invoke, builtin, hxv, hA]
        · have hne : ¬ cap = lo := by omega
          cases A with
          | none => have := hnone rfl; omega
          | some ad =>
            obtain ⟨hsp, ⟨p0, hp0, hlb0⟩, arr, ty, fr, hbk, hbd, hel⟩ := hsome ad rfl (by omega)
            have hwas := hb2.was p0 hp0
            obtain ⟨hexc, _, ⟨arr2, ty2, fr2, k4, k5⟩, _⟩ := h.muts ad.block p0.1 p0.2 hlb0 hwas
            rw [hbk] at k4; cases k4
            have hzlen : (Builtin.zeroCells z.cells (r.xs.length - lo)).toList.length = (r.xs.length - lo) * r.e.size := by simp [Builtin.zeroCells, hzs]
            have hmul : lo * r.e.size + (r.xs.length - lo) * r.e.size = r.xs.length * r.e.size := by rw [← Nat.add_mul]; congr 1; omega
            have hmul2 : r.xs.length * r.e.size ≤ cap * r.e.size := Nat.mul_le_mul_right _ hcap
            obtain ⟨w', arr', hrun, hst'⟩ := run_stored (P := P) ad.block (ad.off + lo * r.e.size) ty fr (Builtin.zeroCells z.cells (r.xs.length - lo)).toList 0 arr w hbk
              (by rw [hzlen]; omega) k5 (fun v hv => by
                obtain ⟨k, hk⟩ := List.getElem?_of_mem hv
                have hkl : k < (r.xs.length - lo) * r.e.size := by rw [← hzlen]; exact (List.getElem?_eq_some_iff.1 hk).1
                have hep : 0 < r.e.size := by
                  rcases Nat.eq_zero_or_pos r.e.size with e | e
                  · rw [e] at hkl; simp at hkl
                  · exact e
                have hdm := Nat.div_add_mod k r.e.size
                have hjl := Nat.mod_lt k hep
                have hml : k / r.e.size < r.xs.length - lo := by rw [Nat.div_lt_iff_lt_mul hep]; exact hkl
                have hget := zeroCells_get hzc' hml (List.getElem?_eq_getElem (show k % r.e.size < (zeroVals r.e).length by rw [zeroVals_length]; exact hjl))
                rw [Nat.mul_comm, hdm, hk] at hget
                rw [Option.some.inj hget]
                exact DRep.one (zero_DRep (w := w) (L := fun _ => True) r.e) _ (List.getElem_mem _))
            have hrel3 := hrel2.storedMut hav hp0 hlb0 (hb2.now p0 hp0) hst'
            have hinner : ∀ b', LB g r.inner b' → w'.heap[b']? = w.heap[b']? := fun b' hb' => by
              obtain ⟨p, hp, hpl⟩ := hb'
              refine hst'.other b' fun e => ?_
              subst e
              exact apartL_spec hap p0 hp0 p hp (hexc p.1 hpl).symm
            have hrel4 := hrel3.setH (id := p) (r := ⟨r.e, r.spine.map fun p => (p.1, p.2 + 1), r.inner, r.xs.take lo ++ List.replicate (r.xs.length - lo) r.e.zero⟩) hp hlabs (fun _ => by
              have hlen : (r.xs.take lo ++ List.replicate (r.xs.length - lo) r.e.zero).length = r.xs.length := by simp; omega
              refine ⟨some ad, cap, by rw [hlen], by rw [hlen]; exact hc', fun e => (by cases e), fun ad' e _ => ?_⟩
              cases e
              refine ⟨hsp, ⟨(p0.1, p0.2 + 1), List.mem_map.2 ⟨p0, hp0, rfl⟩, hlb0⟩, arr', ty, fr, hst'.now, by rw [hst'.size]; exact hbd, fun j y hj => ?_⟩
              by_cases hjl : j < lo
              · rw [List.getElem?_append_left (by simp; omega), List.getElem?_take_of_lt hjl] at hj
                obtain ⟨es, e1, e2, e3⟩ := hel j y hj
                refine ⟨es, e1, fun k v hkv => ?_, e3.mono fun b' hb' => ⟨hb', hinner b' hb'⟩⟩
                have hksz : k < r.e.size := by rw [← e1]; exact (List.getElem?_eq_some_iff.1 hkv).1
                have : (j + 1) * r.e.size ≤ lo * r.e.size := Nat.mul_le_mul_right _ hjl
                rw [Nat.add_mul, Nat.one_mul] at this
                have := hst'.out (ad.off + j * r.e.size + k) (.inl (by omega))
                exact this.trans (e2 k v hkv)
              · rw [List.getElem?_append_right (by simp; omega)] at hj
                have hlt : (r.xs.take lo).length = lo := by simp; omega
                rw [hlt, List.getElem?_replicate] at hj
                split at hj
                · rename_i hjn
                  cases hj
                  refine ⟨zeroVals r.e, zeroVals_length _, fun k v hkv => ?_, zero_DRep _⟩
                  have hg := zeroCells_get hzc' hjn hkv
                  have := hst'.in_ _ _ hg
                  have e4 : ad.off + j * r.e.size = ad.off + lo * r.e.size + 0 + (j - lo) * r.e.size := by
                    have : lo * r.e.size + (j - lo) * r.e.size = j * r.e.size := by rw [← Nat.add_mul]; congr 1; omega
                    omega
                  rw [e4, Nat.add_assoc]
                  exact this
                · cases hj)
            rw [hr] at hrel4
            refine wp_value (v := .tuple #[]) (w' := w') ?_ (hk g _ _ (by rw [hd]; exact hrel4))
            have hxv : a.eval x = .slice (some ⟨ad.block, ad.off + lo * r.e.size, none⟩) (r.xs.length - lo) (cap - lo) := by
              rw [hxv]; simp [hne, add_plain hsp]
            obtain ⟨m, hm⟩ : ∃ m, r.xs.length - lo = m + 1 := ⟨r.xs.length - lo - 1, by omega⟩
            rw [hm] at hrun hxv
            have hA : (Builtin.clear_ #[t] o.type #[.slice (some ⟨ad.block, ad.off + lo * r.e.size, none⟩) (m + 1) (cap - lo)]).run P w = .ok (.tuple #[]) w' := by
              simp [Builtin.clear_, underlying, t1, zeroValue, typeInfo, hi, hz, hrun]
            simp [execOp, ho, resolve, invoke, builtin, hxv, hA]
      · simp [Acc.run] at hr
    · simp [Acc.run] at hr
  · simp [Acc.run] at hr

end Go.Proofs.YtnnnpppodblblaaGreat.Ev
/-
Interfaces: where ways meet, at a loop's head, at a function's begin and end.
-/
namespace Go.Proofs.YtnnnpppodblblaaGreat.Ev
open Go

inductive JL where
  | dead
  | sc (t : Ty)
  | sl (e : Ty) (hid : Nat) (spine inner : List Nat)
  | ref (hid : Nat)

def JL.ty : JL → Ty
  | .dead => .unit
  | .sc t => t
  | .sl e _ _ _ => .sl e
  | .ref _ => .unit

inductive JV where
  | leaf (l : JL)
  | agg (ls : List JL)
  | ptr (b off : Nat)
  | fn (f : Nat) (caps : List (Option (Nat × Nat)))

def JV.ty : JV → Ty
  | .leaf l => l.ty
  | .agg ls => Ty.of (ls.map JL.ty)
  | .ptr _ _ => .unit
  | .fn _ _ => .unit

structure J where
  slots : List (Nat × JV)
  boxes : List (Nat × Bool × List JL)
  labs : List (Nat × Bool)

@[reducible] def tysV (l : List (Nat × JV)) : Ty := Ty.of (l.map fun p => p.2.ty)
@[reducible] def tysB (l : List (Nat × Bool × List JL)) : Ty := Ty.of (l.map fun p => Ty.of (p.2.2.map JL.ty))
@[reducible] def J.ty (j : J) : Ty := .pair (tysV j.slots) (tysB j.boxes)

structure PI where
  hm : List (Nat × Leaf)
  lm : List (Nat × Nat)
  bm : List (Nat × Nat)

def scDen : (t : Ty) → Sc → Option t.den
  | .int k, .int k' n => if k = k' then some n else none
  | .bool, .bool b => some b
  | .str, .str s => some s
  | _, _ => none

def scOf : (t : Ty) → t.den → Leaf
  | .int k, n => .sc (.int k n)
  | .bool, b => .sc (.bool b)
  | .str, s => .sc (.str s)
  | _, _ => .dead

def CAN : Nat := 20000000

variable {α : Type}

def isP (n : Nat) : Bool := decide (10000000 ≤ n) && decide (n < CAN)

/-- Labels find their place: a parameter's stays itself, all others become the one new label of the place; at a call each becomes the parameter's. -/
def addL (cl : Bool) (al : List (Nat × Nat)) (tg : List Nat) (labs : List (Nat × Bool)) (lm : List (Nat × Nat)) (k : List (Nat × Nat) → Acc α) : Acc α :=
  match al with
  | [] => k lm
  | p :: r =>
    match (if cl = true then tg.head? else if p.1 ∈ tg then some p.1 else if isP p.1 = true then none else tg.find? fun c => decide (CAN ≤ c)) with
    | none => .fail
    | some c =>
      match labs.lookup c with
      | none => .fail
      | some mt => .rd (.lab p.1) fun
        | .ep mt' _ => if mt = false ∨ mt' = true then
            match lm.lookup p.1 with
            | some c' => if c' = c then addL cl r tg labs lm k else .fail
            | none => addL cl r tg labs ((p.1, c) :: lm) k
          else .fail
        | _ => .fail

def leafSame : Leaf → Leaf → Bool
  | .nil, .nil => true
  | .sl a, .sl b => a == b
  | _, _ => false

def packLeaf (cl : Bool) (labs : List (Nat × Bool)) (jl : JL) (l : Leaf) (i : PI) (k : jl.ty.den → PI → Acc α) : Acc α :=
  match jl, l with
  | .dead, _ => k () i
  | .sc t, .sc s => match scDen t s with | some x => k x i | none => .fail
  | .sl e hid sp inn, l =>
    if i.hm.lookup hid = none ∧ ((sp ++ inn).all fun c => (labs.lookup c).isSome) = true ∧ (cl = true ∨ isP hid = false ∨ leafSame l (.sl hid) = true) then
      match l with
      | .nil => k ([] : List e.den) { i with hm := (hid, .nil) :: i.hm }
      | .sl h => rdH h fun r => if he : r.e = e then
          addL cl r.spine sp labs i.lm fun lm => addL cl r.inner inn labs lm fun lm' => k (he ▸ r.xs : List e.den) { i with hm := (hid, .sl h) :: i.hm, lm := lm' }
        else .fail
      | _ => .fail
    else .fail
  | .ref hid, l => match i.hm.lookup hid with | some l' => if leafSame l l' then k () i else .fail | none => .fail
  | _, _ => .fail

def packLs (cl : Bool) (labs : List (Nat × Bool)) : (js : List JL) → List Leaf → PI → ((Ty.of (js.map JL.ty)).den → PI → Acc α) → Acc α
  | [], [], i, k => k () i
  | j :: js, l :: ls, i, k => packLeaf cl labs j l i fun x i => packLs cl labs js ls i fun y i => k (x, y) i
  | _, _, _, _ => .fail

def packCaps : List (Option (Nat × Nat)) → List (Option (Nat × Nat)) → PI → Option PI
  | [], [], i => some i
  | none :: r, none :: s, i => packCaps r s i
  | some p :: r, some q :: s, i =>
    if p.2 = q.2 then
      match i.bm.lookup p.1 with
      | none => packCaps r s { i with bm := (p.1, q.1) :: i.bm }
      | some q' => if q' = q.1 then packCaps r s i else none
    else none
  | _, _, _ => none

def packV (cl : Bool) (labs : List (Nat × Bool)) (v : JV) (s : SV) (i : PI) (k : v.ty.den → PI → Acc α) : Acc α :=
  match v, s with
  | .leaf j, .val (.leaf l) => packLeaf cl labs j l i k
  | .agg js, .val (.agg ls) => packLs cl labs js ls i k
  | .ptr b off, .ptr b' off' =>
    if off = off' then
      match i.bm.lookup b with
      | none => k () { i with bm := (b, b') :: i.bm }
      | some q => if q = b' then k () i else .fail
    else .fail
  | .fn f cs, .fn f' cs' => if f = f' then (match packCaps cs cs' i with | some i' => k () i' | none => .fail) else .fail
  | _, _ => .fail

def packVs (cl : Bool) (labs : List (Nat × Bool)) : (js : List (Nat × JV)) → List SV → PI → ((tysV js).den → PI → Acc α) → Acc α
  | [], [], i, k => k () i
  | j :: js, s :: ss, i, k => packV cl labs j.2 s i fun x i => packVs cl labs js ss i fun y i => k (x, y) i
  | _, _, _, _ => .fail

def packBs (cl : Bool) (labs : List (Nat × Bool)) : (bs : List (Nat × Bool × List JL)) → PI → ((tysB bs).den → PI → Acc α) → Acc α
  | [], i, k => k () i
  | b :: r, i, k =>
    match i.bm.lookup b.1 with
    | some q => .rd (.box q) fun
      | .bx ro ls => if ro = false ∨ b.2.1 = true then packLs cl labs b.2.2 ls i fun x i => packBs cl labs r i fun y i => k (x, y) i else .fail
      | _ => .fail
    | none => .fail

/-- No two variables that are one, where one of them may be written. -/
def boxesApart (bs : List (Nat × Bool × List JL)) (bm : List (Nat × Nat)) : Bool :=
  (bm.all fun q => bs.any fun b => b.1 == q.1) &&
  bs.all fun x => bs.all fun y => x.1 == y.1 || (x.2.1 && y.2.1) || (match bm.lookup x.1, bm.lookup y.1 with | some q, some q' => q != q' | _, _ => true)

def noDup (l : List Nat) : Bool :=
  match l with
  | [] => true
  | x :: r => !r.contains x && noDup r

def JL.hids : JL → List Nat
  | .sl _ hid _ _ => [hid]
  | _ => []
def JV.hids : JV → List Nat
  | .leaf l => l.hids
  | .agg ls => ls.flatMap JL.hids
  | _ => []
def J.hids (j : J) : List Nat := j.slots.flatMap (fun p => p.2.hids) ++ j.boxes.flatMap (fun b => b.2.2.flatMap JL.hids)

def packOk (cl : Bool) (j : J) (i : PI) : Bool :=
  boxesApart j.boxes i.bm && (i.hm.all fun p => j.hids.contains p.1) && (cl || i.bm.all fun p => p.1 == p.2)

def packJ (cl : Bool) (j : J) (ss : List SV) (k : j.ty.den → PI → Acc α) : Acc α :=
  packVs cl j.labs j.slots ss ⟨[], [], if cl then [] else j.boxes.map fun b => (b.1, b.1)⟩ fun x i => packBs cl j.labs j.boxes i fun y i =>
    if packOk cl j i = true then k (x, y) i else .fail

/-! ### and back -/
def age0 (l : List Nat) : List (Nat × Nat) := l.map fun c => (c, 0)

def unLeaf : (j : JL) → j.ty.den → List (Key × UV) × Leaf
  | .dead, _ => ([], .dead)
  | .sc t, x => ([], scOf t x)
  | .sl e hid sp inn, xs => ([(.hnd hid, .hr ⟨e, age0 sp, age0 inn, xs⟩)], .sl hid)
  | .ref hid, _ => ([], .sl hid)

def unLs : (js : List JL) → (Ty.of (js.map JL.ty)).den → List (Key × UV) × List Leaf
  | [], _ => ([], [])
  | j :: js, x => ((unLeaf j x.1).1 ++ (unLs js x.2).1, (unLeaf j x.1).2 :: (unLs js x.2).2)

def unV : (v : JV) → v.ty.den → List (Key × UV) × SV
  | .leaf j, x => ((unLeaf j x).1, .val (.leaf (unLeaf j x).2))
  | .agg js, x => ((unLs js x).1, .val (.agg (unLs js x).2))
  | .ptr b off, _ => ([], .ptr b off)
  | .fn f cs, _ => ([], .fn f cs)

def unVs : (js : List (Nat × JV)) → (tysV js).den → List (Key × UV)
  | [], _ => []
  | j :: js, x => (.slot j.1, .sv (unV j.2 x.1).2) :: ((unV j.2 x.1).1 ++ unVs js x.2)

def unBs : (bs : List (Nat × Bool × List JL)) → (tysB bs).den → List (Key × UV)
  | [], _ => []
  | b :: r, x => (.box b.1, .bx b.2.1 (unLs b.2.2 x.1).2) :: ((unLs b.2.2 x.1).1 ++ unBs r x.2)

def J.kv (j : J) (d : j.ty.den) : List (Key × UV) := j.labs.map (fun p => (.lab p.1, .ep p.2 0)) ++ (unVs j.slots d.1 ++ unBs j.boxes d.2)

def J.st (j : J) (d : j.ty.den) : St := fun k => ((j.kv d).lookup k).getD .no

theorem lookup_mem {β γ : Type} [BEq β] [LawfulBEq β] : ∀ {l : List (β × γ)} {k : β} {v : γ}, l.lookup k = some v → (k, v) ∈ l := by
  intro l
  induction l with
  | nil => intro k v h; simp at h
  | cons p r ih =>
    intro k v h
    obtain ⟨a, b⟩ := p
    simp only [List.lookup] at h
    split at h
    · rename_i e; simp at e; subst e; cases h; simp
    · exact List.mem_cons_of_mem _ (ih h)

theorem lookup_of_mem {β γ : Type} [BEq β] [LawfulBEq β] : ∀ {l : List (β × γ)} {k : β} {v : γ}, (k, v) ∈ l → ∃ u, l.lookup k = some u := by
  intro l
  induction l with
  | nil => intro k v h; simp at h
  | cons p r ih =>
    intro k v h
    obtain ⟨a, b⟩ := p
    simp only [List.lookup]
    split
    · exact ⟨b, rfl⟩
    · rename_i e
      rcases List.mem_cons.1 h with e1 | e1
      · injection e1 with e1 e2; subst e1; simp at e
      · exact ih e1

theorem J.st_mem {j : J} {d : j.ty.den} {k : Key} {v : UV} (h : j.st d k = v) (hv : v ≠ .no) : (k, v) ∈ j.kv d := by
  unfold J.st at h
  cases hl : (j.kv d).lookup k with
  | none => rw [hl] at h; exact absurd h.symm hv
  | some u => rw [hl] at h; simp at h; subst h; exact lookup_mem hl

theorem J.st_some {j : J} {d : j.ty.den} {k : Key} {v : UV} (h : (k, v) ∈ j.kv d) : ∃ u, j.st d k = u ∧ (k, u) ∈ j.kv d := by
  obtain ⟨u, hu⟩ := lookup_of_mem h
  exact ⟨u, by simp [J.st, hu], lookup_mem hu⟩

end Go.Proofs.YtnnnpppodblblaaGreat.Ev
