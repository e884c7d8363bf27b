/- An evaluator over the code of any program, and its soundness: what the evaluator answers, the call answers. Conditions are in each theorem. -/
import Derived.Test.YtnnnpppodblblaaGreatV0
import Derived.Tactics
import Derived.ProofKit
import Derived.OpenShut
import Derived.ShutString
import Derived.ChangeOld
import Derived.SizedLaws
import Derived.Below
/-
What is packed reads as before.
-/
namespace Go.Proofs.YtnnnpppodblblaaGreat.Ev
open Go

variable {P : Program} {C : Ctx} {g : Gh} {st st' : St} {a : Act} {w : World} {α : Type} {tab : Tab} {labs : List (Nat × Bool)} {cl : Bool}

structure PExt (i i' : PI) : Prop where
  hm : ∀ k v, i.hm.lookup k = some v → i'.hm.lookup k = some v
  lm : ∀ k v, i.lm.lookup k = some v → i'.lm.lookup k = some v
  bm : ∀ k v, i.bm.lookup k = some v → i'.bm.lookup k = some v

theorem PExt.refl (i : PI) : PExt i i := ⟨fun _ _ h => h, fun _ _ h => h, fun _ _ h => h⟩
theorem PExt.trans {i j k : PI} (h : PExt i j) (h' : PExt j k) : PExt i k := ⟨fun q v e => h'.hm q v (h.hm q v e), fun q v e => h'.lm q v (h.lm q v e), fun q v e => h'.bm q v (h.bm q v e)⟩

def LmOk (cl : Bool) (labs : List (Nat × Bool)) (st : St) (lm : List (Nat × Nat)) : Prop :=
  ∀ l c, lm.lookup l = some c → (cl = true ∨ c = l ∨ (isP c = false ∧ isP l = false)) ∧ ∃ mt mt' n, labs.lookup c = some mt ∧ st (.lab l) = .ep mt' n ∧ (mt = false ∨ mt' = true)

theorem lookup_cons_ne {β : Type} {l : List (Nat × β)} {k k' : Nat} {v : β} (h : k ≠ k') : ((k', v) :: l).lookup k = l.lookup k := by
  have : (k == k') = false := by simpa using h
  simp [List.lookup, this]
theorem lookup_cons_self {β : Type} {l : List (Nat × β)} {k : Nat} {v : β} : ((k, v) :: l).lookup k = some v := by simp

theorem lookup_keep {β : Type} {l : List (Nat × β)} {k : Nat} {v : β} (h : l.lookup k = none) : ∀ q u, l.lookup q = some u → ((k, v) :: l).lookup q = some u := fun q u hq => by
  rw [lookup_cons_ne (fun e => by subst e; rw [h] at hq; cases hq)]; exact hq

theorem addL_run {tg : List Nat} : ∀ {al : List (Nat × Nat)} {lm : List (Nat × Nat)} {k : List (Nat × Nat) → Acc α} {p : α × St}, LmOk cl labs st lm → (addL cl al tg labs lm k).run st = some p →
    ∃ lm', (∀ q u, lm.lookup q = some u → lm'.lookup q = some u) ∧ LmOk cl labs st lm' ∧ (∀ q, q ∈ al → ∃ c, lm'.lookup q.1 = some c ∧ c ∈ tg) ∧ (k lm').run st = some p := by
  intro al
  induction al with
  | nil => intro lm k p h hr; exact ⟨lm, fun _ _ e => e, h, fun q hq => by simp at hq, hr⟩
  | cons x r ih =>
    intro lm k p h hr
    simp only [addL] at hr
    split at hr
    · simp [Acc.run] at hr
    · rename_i c hc
      have hct : c ∈ tg ∧ (cl = true ∨ c = x.1 ∨ (isP c = false ∧ isP x.1 = false)) := by
        split at hc
        · rename_i hcl
          exact ⟨List.mem_of_mem_head? hc, .inl hcl⟩
        · split at hc
          · rename_i hm; cases hc; exact ⟨hm, .inr (.inl rfl)⟩
          · split at hc
            · cases hc
            · rename_i hnp
              have := List.find?_some hc
              exact ⟨List.mem_of_find?_eq_some hc, .inr (.inr ⟨by simp at this; simp [isP]; omega, by simpa using hnp⟩)⟩
      split at hr
      · simp [Acc.run] at hr
      · rename_i mt hmt
        simp only [Acc.run] at hr
        split at hr
        · rename_i mt' n hst
          split at hr
          · rename_i hmm
            split at hr
            · rename_i c' hc'
              split at hr
              · rename_i hcc; subst hcc
                obtain ⟨lm', k1, k2, k3, k4⟩ := ih h hr
                refine ⟨lm', k1, k2, fun q hq => ?_, k4⟩
                rcases List.mem_cons.1 hq with e | e
                · subst e; exact ⟨c', k1 _ _ hc', hct.1⟩
                · exact k3 q e
              · simp [Acc.run] at hr
            · rename_i hnone
              have hnew : LmOk cl labs st ((x.1, c) :: lm) := fun l c0 hl => by
                by_cases e : l = x.1
                · subst e; rw [lookup_cons_self] at hl; cases hl
                  exact ⟨hct.2, mt, mt', n, hmt, hst, hmm⟩
                · rw [lookup_cons_ne e] at hl; exact h l c0 hl
              obtain ⟨lm', k1, k2, k3, k4⟩ := ih hnew hr
              refine ⟨lm', fun q u hq => k1 q u (lookup_keep hnone q u hq), k2, fun q hq => ?_, k4⟩
              rcases List.mem_cons.1 hq with e | e
              · subst e; exact ⟨c, k1 _ _ lookup_cons_self, hct.1⟩
              · exact k3 q e
          · simp [Acc.run] at hr
        · simp [Acc.run] at hr

def LM (i : PI) (g : Gh) (sp : List Nat) (b : Nat) : Prop := ∃ l c, i.lm.lookup l = some c ∧ c ∈ sp ∧ g.lb b l

theorem LM.ext {i i' : PI} (e : PExt i i') {sp : List Nat} {b : Nat} (h : LM i g sp b) : LM i' g sp b := by
  obtain ⟨l, c, h1, h2, h3⟩ := h; exact ⟨l, c, e.lm _ _ h1, h2, h3⟩

def JFact (cl : Bool) (g : Gh) (w : World) (labs : List (Nat × Bool)) (i : PI) : (j : JL) → j.ty.den → Leaf → Value → Prop
  | .dead, _, _, v => v.oneCell = true
  | .sc t, x, _, v => ∃ s, scOf t x = .sc s ∧ v = s.val
  | .sl e hid sp inn, x, l, v => i.hm.lookup hid = some l ∧ (l = .nil ∨ ∃ h, l = .sl h) ∧ LeafRep g l v ∧ SRep w (LM i g sp) (DRep w (LM i g inn) e) e.size x v ∧ (∀ c, c ∈ sp ++ inn → (labs.lookup c).isSome = true) ∧
      (cl = true ∨ isP hid = false ∨ leafSame l (.sl hid) = true)
  | .ref hid, _, l, v => ∃ l', i.hm.lookup hid = some l' ∧ leafSame l l' = true ∧ LeafRep g l v

theorem JFact.ext {i i' : PI} (e : PExt i i') {j : JL} {x : j.ty.den} {l : Leaf} {v : Value} (h : JFact cl g w labs i j x l v) : JFact cl g w labs i' j x l v := by
  cases j with
  | dead => exact h
  | sc t => exact h
  | sl t hid sp inn =>
    obtain ⟨h1, h2, h3, h4, h5, h6⟩ := h
    exact ⟨e.hm _ _ h1, h2, h3, h4.mono (fun b hb => ⟨LM.ext e hb, rfl⟩) fun x cs hx => DRep.mono (fun b hb => ⟨LM.ext e hb, rfl⟩) hx, h5, h6⟩
  | ref hid => obtain ⟨l', h1, h2⟩ := h; exact ⟨l', e.hm _ _ h1, h2⟩

theorem packLeaf_run {j : JL} {l : Leaf} {i : PI} {k : j.ty.den → PI → Acc α} {p : α × St} {v : Value} (h : Rel C g st a w) (hlm : LmOk cl labs st i.lm) (hv : LeafRep g l v) (hr : (packLeaf cl labs j l i k).run st = some p) :
    ∃ x i', PExt i i' ∧ LmOk cl labs st i'.lm ∧ JFact cl g w labs i' j x l v ∧ (k x i').run st = some p := by
  cases j with
  | dead => exact ⟨(), i, PExt.refl i, hlm, LeafRep.one hv, by cases l <;> simpa [packLeaf] using hr⟩
  | sc t =>
    cases l with
    | sc s =>
      simp only [packLeaf] at hr
      split at hr
      · rename_i x hx
        refine ⟨x, i, PExt.refl i, hlm, ⟨s, ?_, hv⟩, hr⟩
        cases t <;> cases s <;> simp only [scDen] at hx <;> try (cases hx; done)
        · split at hx
          · rename_i e; subst e; cases hx; rfl
          · cases hx
        · cases hx; rfl
        · cases hx; rfl
      · simp [Acc.run] at hr
    | _ => simp [packLeaf, Acc.run] at hr
  | sl e hid sp inn =>
    simp only [packLeaf] at hr
    split at hr
    · rename_i hcond
      obtain ⟨hno, hlabs, hcan⟩ := hcond
      have hl2 : ∀ c, c ∈ sp ++ inn → (labs.lookup c).isSome = true := fun c hc => List.all_eq_true.1 hlabs c hc
      split at hr
      · refine ⟨[], { i with hm := (hid, .nil) :: i.hm }, ⟨fun q u hq => lookup_keep hno q u hq, fun _ _ h => h, fun _ _ h => h⟩, hlm, ⟨lookup_cons_self, .inl rfl, hv, ?_, hl2, hcan⟩, hr⟩
        simp only [LeafRep] at hv; subst hv; exact SRep.nil
      · rename_i q
        obtain ⟨r, u, h1, h2, h3, h4, h5⟩ := rdH_run h hr
        split at h5
        · rename_i he
          cases r with
          | mk re rs ri rx =>
            simp only at he; subst he
            simp only at h5 h4
            obtain ⟨lm', a1, a2, a3, h5⟩ := addL_run hlm h5
            obtain ⟨lm2, b1, b2, b3, h5⟩ := addL_run a2 h5
            have : v = u := by have := hv.1; rw [h3] at this; exact (Option.some.inj this).symm
            subst this
            refine ⟨rx, { i with hm := (hid, .sl q) :: i.hm, lm := lm2 }, ⟨fun q u hq => lookup_keep hno q u hq, fun q u hq => b1 q u (a1 q u hq), fun _ _ h => h⟩, b2, ⟨lookup_cons_self, .inr ⟨q, rfl⟩, hv, ?_, hl2, hcan⟩, h5⟩
            exact h4.mono (fun b hb => by
              obtain ⟨z, hz, hz2⟩ := hb
              obtain ⟨c, hc, hc2⟩ := a3 z hz
              exact ⟨⟨z.1, c, b1 _ _ hc, hc2, hz2⟩, rfl⟩) fun x cs hx => DRep.mono (fun b hb => by
              obtain ⟨z, hz, hz2⟩ := hb
              obtain ⟨c, hc, hc2⟩ := b3 z hz
              exact ⟨⟨z.1, c, hc, hc2, hz2⟩, rfl⟩) hx
        · simp [Acc.run] at h5
      · simp [Acc.run] at hr
    · simp [Acc.run] at hr
  | ref hid =>
    simp only [packLeaf] at hr
    split at hr
    · rename_i l' hl'
      split at hr
      · rename_i hsame
        exact ⟨(), i, PExt.refl i, hlm, ⟨l', hl', hsame, hv⟩, hr⟩
      · simp [Acc.run] at hr
    · simp [Acc.run] at hr

/-- Cell by cell. -/
def JFacts (cl : Bool) (g : Gh) (w : World) (labs : List (Nat × Bool)) (i : PI) : (js : List JL) → (Ty.of (js.map JL.ty)).den → List Leaf → List Value → Prop
  | [], _, ls, vs => ls = [] ∧ vs = []
  | j :: js, x, ls, vs => ∃ l ls' v vs', ls = l :: ls' ∧ vs = v :: vs' ∧ JFact cl g w labs i j x.1 l v ∧ JFacts cl g w labs i js x.2 ls' vs'

theorem JFacts.ext {i i' : PI} (e : PExt i i') : ∀ {js : List JL} {x : (Ty.of (js.map JL.ty)).den} {ls : List Leaf} {vs : List Value}, JFacts cl g w labs i js x ls vs → JFacts cl g w labs i' js x ls vs := by
  intro js
  induction js with
  | nil => intro x ls vs h; exact h
  | cons j js ih => intro x ls vs h; obtain ⟨l, ls', v, vs', rfl, rfl, h1, h2⟩ := h; exact ⟨l, ls', v, vs', rfl, rfl, h1.ext e, ih h2⟩

theorem packLs_run (h : Rel C g st a w) : ∀ {js : List JL} {ls : List Leaf} {i : PI} {k : (Ty.of (js.map JL.ty)).den → PI → Acc α} {p : α × St} {vs : List Value}, LmOk cl labs st i.lm → AllRep (LeafRep g) ls vs →
    (packLs cl labs js ls i k).run st = some p → ∃ x i', PExt i i' ∧ LmOk cl labs st i'.lm ∧ JFacts cl g w labs i' js x ls vs ∧ (k x i').run st = some p := by
  intro js
  induction js with
  | nil =>
    intro ls i k p vs hlm hv hr
    cases ls with
    | nil => simp only [AllRep] at hv; subst hv; exact ⟨(), i, PExt.refl i, hlm, ⟨rfl, rfl⟩, hr⟩
    | cons _ _ => simp [packLs, Acc.run] at hr
  | cons j js ih =>
    intro ls i k p vs hlm hv hr
    cases ls with
    | nil => simp [packLs, Acc.run] at hr
    | cons l ls =>
      obtain ⟨v, r, rfl, hv1, hv2⟩ := hv
      simp only [packLs] at hr
      obtain ⟨x, i1, e1, m1, f1, hr⟩ := packLeaf_run h hlm hv1 hr
      obtain ⟨y, i2, e2, m2, f2, hr⟩ := ih m1 hv2 hr
      exact ⟨(x, y), i2, e1.trans e2, m2, ⟨l, ls, v, r, rfl, rfl, f1.ext e2, f2⟩, hr⟩

def CapFact (g : Gh) (i : PI) : Option (Nat × Nat) → Value → Prop
  | none, v => v = .pointer none
  | some p, v => ∃ q ad, i.bm.lookup p.1 = some q ∧ g.bxa q = some ad ∧ v = .pointer (some ⟨ad.block, ad.off + p.2, none⟩)

theorem CapFact.ext {i i' : PI} (e : PExt i i') {c : Option (Nat × Nat)} {v : Value} (h : CapFact g i c v) : CapFact g i' c v := by
  cases c with
  | none => exact h
  | some p => obtain ⟨q, ad, h1, h2⟩ := h; exact ⟨q, ad, e.bm _ _ h1, h2⟩

theorem packCaps_run : ∀ {cs cs' : List (Option (Nat × Nat))} {i i' : PI} {vs : List Value}, AllRep (CapRep g) cs' vs → packCaps cs cs' i = some i' → PExt i i' ∧ i'.lm = i.lm ∧ AllRep (CapFact g i') cs vs := by
  intro cs
  induction cs with
  | nil =>
    intro cs' i i' vs hv h
    cases cs' with
    | nil => simp only [packCaps, Option.some.injEq] at h; subst h; exact ⟨PExt.refl _, rfl, hv⟩
    | cons _ _ => simp [packCaps] at h
  | cons c cs ih =>
    intro cs' i i' vs hv h
    cases cs' with
    | nil => cases c <;> simp [packCaps] at h
    | cons c' cs' =>
      obtain ⟨v, r, rfl, hv1, hv2⟩ := hv
      cases c with
      | none =>
        cases c' with
        | some _ => simp [packCaps] at h
        | none =>
          simp only [packCaps] at h
          obtain ⟨k1, k2, k3⟩ := ih hv2 h
          exact ⟨k1, k2, v, r, rfl, hv1, k3⟩
      | some p =>
        cases c' with
        | none => simp [packCaps] at h
        | some p' =>
          simp only [packCaps] at h
          obtain ⟨ad, ha, hu⟩ := hv1
          split at h
          · rename_i hoff
            split at h
            · rename_i hno
              obtain ⟨k1, k2, k3⟩ := ih hv2 h
              refine ⟨PExt.trans (j := { i with bm := (p.1, p'.1) :: i.bm }) ⟨fun _ _ h => h, fun _ _ h => h, fun q u hq => lookup_keep hno q u hq⟩ k1, k2, v, r, rfl, ?_, k3⟩
              exact ⟨p'.1, ad, k1.bm _ _ lookup_cons_self, ha, by rw [hoff]; exact hu⟩
            · rename_i q hq
              split at h
              · rename_i hqq
                obtain ⟨k1, k2, k3⟩ := ih hv2 h
                exact ⟨k1, k2, v, r, rfl, ⟨p'.1, ad, k1.bm _ _ (by rw [hq, hqq]), ha, by rw [hoff]; exact hu⟩, k3⟩
              · cases h
          · cases h

def VFact (cl : Bool) (g : Gh) (w : World) (labs : List (Nat × Bool)) (i : PI) : (v : JV) → v.ty.den → Value → Prop
  | .leaf j, x, u => ∃ l, JFact cl g w labs i j x l u
  | .agg js, x, u => ∃ cs ls, u = .agg cs ∧ JFacts cl g w labs i js x ls cs.toList
  | .ptr b off, _, u => ∃ q ad, i.bm.lookup b = some q ∧ g.bxa q = some ad ∧ u = .pointer (some ⟨ad.block, ad.off + off, none⟩)
  | .fn f caps, _, u => ∃ cs, u = .func (.func f) #[] cs ∧ AllRep (CapFact g i) caps cs.toList

theorem VFact.ext {i i' : PI} (e : PExt i i') {v : JV} {x : v.ty.den} {u : Value} (h : VFact cl g w labs i v x u) : VFact cl g w labs i' v x u := by
  cases v with
  | leaf j => obtain ⟨l, h⟩ := h; exact ⟨l, h.ext e⟩
  | agg js => obtain ⟨cs, ls, h1, h2⟩ := h; exact ⟨cs, ls, h1, h2.ext e⟩
  | ptr b off => obtain ⟨q, ad, h1, h2⟩ := h; exact ⟨q, ad, e.bm _ _ h1, h2⟩
  | fn f caps => obtain ⟨cs, h1, h2⟩ := h; exact ⟨cs, h1, h2.imp fun _ _ _ hv => hv.ext e⟩

theorem packV_run (h : Rel C g st a w) {v : JV} {s : SV} {i : PI} {k : v.ty.den → PI → Acc α} {p : α × St} {u : Value} (hlm : LmOk cl labs st i.lm) (hs : SVRep g s u) (hr : (packV cl labs v s i k).run st = some p) :
    ∃ x i', PExt i i' ∧ LmOk cl labs st i'.lm ∧ VFact cl g w labs i' v x u ∧ (k x i').run st = some p := by
  cases v with
  | leaf j =>
    cases s with
    | val c =>
      cases c with
      | leaf l =>
        simp only [packV] at hr
        obtain ⟨x, i1, e1, m1, f1, hr⟩ := packLeaf_run h hlm hs hr
        exact ⟨x, i1, e1, m1, ⟨l, f1⟩, hr⟩
      | agg ls => simp [packV, Acc.run] at hr
    | _ => simp [packV, Acc.run] at hr
  | agg js =>
    cases s with
    | val c =>
      cases c with
      | leaf l => simp [packV, Acc.run] at hr
      | agg ls =>
        simp only [packV] at hr
        obtain ⟨cs, hcs, hall⟩ := hs
        obtain ⟨x, i1, e1, m1, f1, hr⟩ := packLs_run h hlm hall hr
        exact ⟨x, i1, e1, m1, ⟨cs, ls, hcs, f1⟩, hr⟩
    | _ => simp [packV, Acc.run] at hr
  | ptr b off =>
    cases s with
    | ptr b' off' =>
      simp only [packV] at hr
      obtain ⟨ad, ha, hu⟩ := hs
      split at hr
      · rename_i hle; subst hle
        split at hr
        · rename_i hno
          exact ⟨(), { i with bm := (b, b') :: i.bm }, ⟨fun _ _ h => h, fun _ _ h => h, fun q u hq => lookup_keep hno q u hq⟩, hlm, ⟨b', ad, lookup_cons_self, ha, hu⟩, hr⟩
        · rename_i q hq
          split at hr
          · rename_i hqq; subst hqq
            exact ⟨(), i, PExt.refl i, hlm, ⟨_, ad, hq, ha, hu⟩, hr⟩
          · simp [Acc.run] at hr
      · simp [Acc.run] at hr
    | _ => simp [packV, Acc.run] at hr
  | fn f caps =>
    cases s with
    | fn f' caps' =>
      simp only [packV] at hr
      obtain ⟨cs, hu, hall⟩ := hs
      split at hr
      · rename_i hle; subst hle
        split at hr
        · rename_i i' hi
          obtain ⟨k1, k2, k3⟩ := packCaps_run hall hi
          exact ⟨(), i', k1, by rw [k2]; exact hlm, ⟨cs, hu, k3⟩, hr⟩
        · simp [Acc.run] at hr
      · simp [Acc.run] at hr
    | _ => simp [packV, Acc.run] at hr

def VFacts (cl : Bool) (g : Gh) (w : World) (labs : List (Nat × Bool)) (i : PI) : (js : List (Nat × JV)) → (tysV js).den → List Value → Prop
  | [], _, us => us = []
  | j :: js, x, us => ∃ u us', us = u :: us' ∧ VFact cl g w labs i j.2 x.1 u ∧ VFacts cl g w labs i js x.2 us'

theorem VFacts.ext {i i' : PI} (e : PExt i i') : ∀ {js : List (Nat × JV)} {x : (tysV js).den} {us : List Value}, VFacts cl g w labs i js x us → VFacts cl g w labs i' js x us := by
  intro js
  induction js with
  | nil => intro x us h; exact h
  | cons j js ih => intro x us h; obtain ⟨u, us', rfl, h1, h2⟩ := h; exact ⟨u, us', rfl, h1.ext e, ih h2⟩

theorem packVs_run (h : Rel C g st a w) : ∀ {js : List (Nat × JV)} {ss : List SV} {i : PI} {k : (tysV js).den → PI → Acc α} {p : α × St} {us : List Value}, LmOk cl labs st i.lm → AllRep (SVRep g) ss us →
    (packVs cl labs js ss i k).run st = some p → ∃ x i', PExt i i' ∧ LmOk cl labs st i'.lm ∧ VFacts cl g w labs i' js x us ∧ (k x i').run st = some p := by
  intro js
  induction js with
  | nil =>
    intro ss i k p us hlm hv hr
    cases ss with
    | nil => simp only [AllRep] at hv; subst hv; exact ⟨(), i, PExt.refl i, hlm, rfl, hr⟩
    | cons _ _ => simp [packVs, Acc.run] at hr
  | cons j js ih =>
    intro ss i k p us hlm hv hr
    cases ss with
    | nil => simp [packVs, Acc.run] at hr
    | cons s ss =>
      obtain ⟨u, r, rfl, hv1, hv2⟩ := hv
      simp only [packVs] at hr
      obtain ⟨x, i1, e1, m1, f1, hr⟩ := packV_run h hlm hv1 hr
      obtain ⟨y, i2, e2, m2, f2, hr⟩ := ih m1 hv2 hr
      exact ⟨(x, y), i2, e1.trans e2, m2, ⟨u, r, rfl, f1.ext e2, f2⟩, hr⟩

def BFact (cl : Bool) (g : Gh) (st : St) (w : World) (labs : List (Nat × Bool)) (i : PI) (b : Nat × Bool × List JL) (x : (Ty.of (b.2.2.map JL.ty)).den) : Prop :=
  ∃ q ro ls ad arr ty fr us, i.bm.lookup b.1 = some q ∧ st (.box q) = .bx ro ls ∧ (ro = false ∨ b.2.1 = true) ∧ g.bxa q = some ad ∧ w.heap[ad.block]? = some (.cells arr ty fr) ∧ ad.off + ls.length ≤ arr.size ∧
    (∀ j v, us[j]? = some v → arr[ad.off + j]? = some v) ∧ JFacts cl g w labs i b.2.2 x ls us

def BFacts (cl : Bool) (g : Gh) (st : St) (w : World) (labs : List (Nat × Bool)) (i : PI) : (bs : List (Nat × Bool × List JL)) → (tysB bs).den → Prop
  | [], _ => True
  | b :: r, x => BFact cl g st w labs i b x.1 ∧ BFacts cl g st w labs i r x.2

theorem BFact.ext {i i' : PI} (e : PExt i i') {b : Nat × Bool × List JL} {x : (Ty.of (b.2.2.map JL.ty)).den} (h : BFact cl g st w labs i b x) : BFact cl g st w labs i' b x := by
  obtain ⟨q, ro, ls, ad, arr, ty, fr, us, h1, h2, h3, h4, h5, h6, h7, h8⟩ := h
  exact ⟨q, ro, ls, ad, arr, ty, fr, us, e.bm _ _ h1, h2, h3, h4, h5, h6, h7, h8.ext e⟩

theorem BFacts.ext {i i' : PI} (e : PExt i i') : ∀ {bs : List (Nat × Bool × List JL)} {x : (tysB bs).den}, BFacts cl g st w labs i bs x → BFacts cl g st w labs i' bs x := by
  intro bs
  induction bs with
  | nil => intro x h; exact h
  | cons b bs ih => intro x h; exact ⟨h.1.ext e, ih h.2⟩

theorem JFacts.lens {i : PI} : ∀ {js : List JL} {x : (Ty.of (js.map JL.ty)).den} {ls : List Leaf} {vs : List Value}, JFacts cl g w labs i js x ls vs → ls.length = js.length ∧ vs.length = js.length := by
  intro js
  induction js with
  | nil => intro x ls vs h; obtain ⟨rfl, rfl⟩ := h; exact ⟨rfl, rfl⟩
  | cons j js ih => intro x ls vs h; obtain ⟨l, ls', v, vs', rfl, rfl, _, h2⟩ := h; have := ih h2; simp [this.1, this.2]

theorem BoxRep.all {ad : Addr} {ls : List Leaf} (h : BoxRep g w ad ls) :
    ∃ us arr ty fr, w.heap[ad.block]? = some (.cells arr ty fr) ∧ ad.off + ls.length ≤ arr.size ∧ (∀ (j : Nat) (v : Value), us[j]? = some v → arr[ad.off + j]? = some v) ∧ AllRep (LeafRep g) ls us := by
  obtain ⟨arr, ty, fr, h1, h2, h3⟩ := h
  refine ⟨(arr.toList.drop ad.off).take ls.length, arr, ty, fr, h1, h2, fun j v hj => ?_, AllRep.mk (by simp; omega) fun j l v hj hv => ?_⟩
  · rw [List.getElem?_take] at hj
    split at hj
    · simpa using hj
    · cases hj
  · obtain ⟨u, hu, hl⟩ := h3 j l hj
    rw [List.getElem?_take] at hv
    split at hv
    · simp [hu] at hv; subst hv; exact hl
    · cases hv

theorem packBs_run (h : Rel C g st a w) : ∀ {bs : List (Nat × Bool × List JL)} {i : PI} {k : (tysB bs).den → PI → Acc α} {p : α × St}, LmOk cl labs st i.lm →
    (packBs cl labs bs i k).run st = some p → ∃ x i', PExt i i' ∧ LmOk cl labs st i'.lm ∧ BFacts cl g st w labs i' bs x ∧ (k x i').run st = some p := by
  intro bs
  induction bs with
  | nil => intro i k p hlm hr; exact ⟨(), i, PExt.refl i, hlm, trivial, hr⟩
  | cons b bs ih =>
    intro i k p hlm hr
    simp only [packBs] at hr
    split at hr
    · rename_i q hq
      simp only [Acc.run] at hr
      split at hr
      · rename_i ro ls hb
        split at hr
        · rename_i hro
          obtain ⟨ad, ha, hrep⟩ := h.boxes q ro ls hb
          obtain ⟨us, arr, ty, fr, u0, u1, u2, u3⟩ := hrep.all
          obtain ⟨x, i1, e1, m1, f1, hr⟩ := packLs_run h hlm u3 hr
          obtain ⟨y, i2, e2, m2, f2, hr⟩ := ih m1 hr
          exact ⟨(x, y), i2, e1.trans e2, m2, ⟨⟨q, ro, ls, ad, arr, ty, fr, us, e2.bm _ _ (e1.bm _ _ hq), hb, hro, ha, u0, u1, u2, f1.ext e2⟩, f2⟩, hr⟩
        · simp [Acc.run] at hr
      · simp [Acc.run] at hr
    · simp [Acc.run] at hr

end Go.Proofs.YtnnnpppodblblaaGreat.Ev
/-
A packed state stands for the same memory.
-/
namespace Go.Proofs.YtnnnpppodblblaaGreat.Ev
open Go

variable {P : Program} {C : Ctx} {g : Gh} {st st' : St} {a : Act} {w : World} {α : Type} {tab : Tab} {labs : List (Nat × Bool)} {cl : Bool}

/-- What holds of a state by itself. -/
structure Core (g : Gh) (st : St) (tmps : Array Value) (w : World) : Prop where
  slots : ∀ n v, st (.slot n) = .sv v → SVRep g v (tmps.getD n undef)
  hnds : ∀ h r, st (.hnd h) = .hr r → ∃ v, g.hd h = some v ∧ (Alive st r → SRep w (LB g r.spine) (DRep w (LB g r.inner) r.e) r.e.size r.xs v)
  boxes : ∀ b ro ls, st (.box b) = .bx ro ls → ∃ ad, g.bxa b = some ad ∧ BoxRep g w ad ls
  hdom : ∀ h v, g.hd h = some v → ∃ r, st (.hnd h) = .hr r
  bdom : ∀ b ad, g.bxa b = some ad → ad.spot = none ∧ ∃ ro ls, st (.box b) = .bx ro ls
  hlabs : ∀ h r, st (.hnd h) = .hr r → ∀ p, p ∈ r.spine ++ r.inner → ∃ m n, st (.lab p.1) = .ep m n ∧ p.2 ≤ n
  labs : ∀ b l, g.lb b l → (∃ m n, st (.lab l) = .ep m n) ∧ b < w.heap.size
  muts : ∀ b l n, g.lb b l → st (.lab l) = .ep true n → (∀ l', g.lb b l' → l' = l) ∧ (∀ r ad, g.bxa r = some ad → ad.block ≠ b) ∧ Cells w b
  rws : ∀ r ls ad, st (.box r) = .bx false ls → g.bxa r = some ad → (∀ l, ¬ g.lb ad.block l) ∧ (∀ r' ad', r' ≠ r → g.bxa r' = some ad' → ad'.block ≠ ad.block) ∧ Cells w ad.block
  wins : ∀ h p lo sz, st (.win h) = .wn p lo sz → WinRep g h p lo sz

theorem Rel.core (h : Rel C g st a w) : Core g st a.tmps w :=
  { h with
    muts := fun b l n h1 h2 => let ⟨p1, p2, p3, _⟩ := h.muts b l n h1 h2; ⟨p1, p2, p3⟩
    rws := fun r ls ad h1 h2 => let ⟨p1, p2, p3, _⟩ := h.rws r ls ad h1 h2; ⟨p1, p2, p3⟩ }

def PI.gh (i : PI) (g : Gh) : Gh where
  hd := fun h => match i.hm.lookup h with | some .nil => some (.slice none 0 0) | some (.sl q) => g.hd q | _ => none
  bxa := fun b => match i.bm.lookup b with | some q => g.bxa q | none => none
  lb := fun b c => ∃ l, i.lm.lookup l = some c ∧ g.lb b l

structure PackFacts (cl : Bool) (g : Gh) (st : St) (w : World) (j : J) (i : PI) (x : j.ty.den) (us : List Value) : Prop where
  lm : LmOk cl j.labs st i.lm
  vs : VFacts cl g w j.labs i j.slots x.1 us
  bs : BFacts cl g st w j.labs i j.boxes x.2
  ok : packOk cl j i = true

theorem packJ_run (h : Rel C g st a w) {j : J} {ss : List SV} {k : j.ty.den → PI → Acc α} {p : α × St} {us : List Value} (hs : AllRep (SVRep g) ss us)
    (hr : (packJ cl j ss k).run st = some p) : ∃ x i, PackFacts cl g st w j i x us ∧ (k x i).run st = some p := by
  unfold packJ at hr
  obtain ⟨x, i1, e1, m1, f1, hr⟩ := packVs_run h (cl := cl) (fun l c hl => by simp at hl) hs hr
  obtain ⟨y, i2, e2, m2, f2, hr⟩ := packBs_run h m1 hr
  split at hr
  · rename_i hok; exact ⟨(x, y), i2, ⟨m2, f1.ext e2, f2, hok⟩, hr⟩
  · simp [Acc.run] at hr

/-- What each entry of the packed state says. -/
def EFact (cl : Bool) (g : Gh) (st : St) (w : World) (j : J) (i : PI) (tmps : Array Value) (k : Key) (v : UV) : Prop :=
  match k with
  | .slot n => ∃ s, v = .sv s ∧ SVRep (i.gh g) s (tmps.getD n undef)
  | .hnd h => ∃ r u l, v = .hr r ∧ (i.gh g).hd h = some u ∧ SRep w (LB (i.gh g) r.spine) (DRep w (LB (i.gh g) r.inner) r.e) r.e.size r.xs u ∧ (∀ p, p ∈ r.spine ++ r.inner → p.2 = 0 ∧ (j.labs.lookup p.1).isSome = true) ∧
      i.hm.lookup h = some l ∧ (cl = true ∨ isP h = false ∨ leafSame l (.sl h) = true) ∧ h ∈ j.hids
  | .box b => ∃ ro ls q ro' ls' ad, v = .bx ro ls ∧ i.bm.lookup b = some q ∧ st (.box q) = .bx ro' ls' ∧ (ro' = false ∨ ro = true) ∧ g.bxa q = some ad ∧ ls.length = ls'.length ∧ BoxRep (i.gh g) w ad ls ∧ ∃ js, (b, ro, js) ∈ j.boxes
  | .lab l => ∃ mt, v = .ep mt 0
  | .win _ => False

theorem age0_mem {l : List Nat} {p : Nat × Nat} (h : p ∈ age0 l) : p.1 ∈ l ∧ p.2 = 0 := by
  simp only [age0, List.mem_map] at h
  obtain ⟨c, hc, rfl⟩ := h; exact ⟨hc, rfl⟩

theorem LM.lb {i : PI} {sp : List Nat} {b : Nat} (h : LM i g sp b) : LB (i.gh g) (age0 sp) b := by
  obtain ⟨l, c, h1, h2, h3⟩ := h
  exact ⟨(c, 0), by simp [age0, h2], l, h1, h3⟩

theorem leafSame_sl {l : Leaf} {h : Nat} (e : leafSame l (.sl h) = true) : l = .sl h := by
  cases l <;> simp [leafSame] at e; subst e; rfl

theorem JFact.un {j : J} {i : PI} {tmps : Array Value} {jl : JL} {x : jl.ty.den} {l : Leaf} {v : Value} (f : JFact cl g w j.labs i jl x l v) (hh : ∀ q, q ∈ jl.hids → q ∈ j.hids) :
    (∀ k u, (k, u) ∈ (unLeaf jl x).1 → EFact cl g st w j i tmps k u) ∧ LeafRep (i.gh g) (unLeaf jl x).2 v := by
  cases jl with
  | dead => exact ⟨fun k u hm => by simp [unLeaf] at hm, f⟩
  | sc t =>
    obtain ⟨s, h1, h2⟩ := f
    exact ⟨fun k u hm => by simp [unLeaf] at hm, by simp only [unLeaf, h1]; exact h2⟩
  | sl e hid sp inn =>
    obtain ⟨h1, h2, h3, h4, h5, h6⟩ := f
    have hv : (i.gh g).hd hid = some v := by
      rcases h2 with rfl | ⟨q, rfl⟩
      · simp only [LeafRep] at h3; subst h3; simp [PI.gh, h1]
      · simp [PI.gh, h1, h3.1]
    refine ⟨fun k u hm => ?_, hv, LeafRep.one h3⟩
    simp only [unLeaf, List.mem_singleton, Prod.mk.injEq] at hm
    obtain ⟨rfl, rfl⟩ := hm
    refine ⟨_, v, l, rfl, hv, ?_, fun p hp => ?_, h1, h6, hh _ (by simp [JL.hids])⟩
    · exact h4.mono (fun b hb => ⟨hb.lb, rfl⟩) fun x cs hx => DRep.mono (fun b hb => ⟨hb.lb, rfl⟩) hx
    · rcases List.mem_append.1 hp with hp | hp
      · exact ⟨(age0_mem hp).2, h5 _ (List.mem_append_left _ (age0_mem hp).1)⟩
      · exact ⟨(age0_mem hp).2, h5 _ (List.mem_append_right _ (age0_mem hp).1)⟩
  | ref hid =>
    obtain ⟨l', h1, h2, h3⟩ := f
    refine ⟨fun k u hm => by simp [unLeaf] at hm, ?_⟩
    cases l <;> cases l' <;> simp [leafSame] at h2
    · simp only [LeafRep] at h3; subst h3; exact ⟨by simp [PI.gh, h1], rfl⟩
    · subst h2; exact ⟨by simp [PI.gh, h1, h3.1], h3.2⟩

theorem JFacts.un {j : J} {i : PI} {tmps : Array Value} : ∀ {js : List JL} {x : (Ty.of (js.map JL.ty)).den} {ls : List Leaf} {vs : List Value}, JFacts cl g w j.labs i js x ls vs → (∀ q, q ∈ js.flatMap JL.hids → q ∈ j.hids) →
    (∀ k u, (k, u) ∈ (unLs js x).1 → EFact cl g st w j i tmps k u) ∧ AllRep (LeafRep (i.gh g)) (unLs js x).2 vs := by
  intro js
  induction js with
  | nil => intro x ls vs f _; obtain ⟨rfl, rfl⟩ := f; exact ⟨fun k u hm => by simp [unLs] at hm, rfl⟩
  | cons jl js ih =>
    intro x ls vs f hh
    obtain ⟨l, ls', v, vs', rfl, rfl, h1, h2⟩ := f
    obtain ⟨a1, a2⟩ := h1.un (st := st) (tmps := tmps) fun q hq => hh q (by simp [hq])
    obtain ⟨b1, b2⟩ := ih h2 fun q hq => hh q (by simp only [List.flatMap_cons, List.mem_append]; exact .inr hq)
    exact ⟨fun k u hm => by
      simp only [unLs, List.mem_append] at hm
      rcases hm with hm | hm
      · exact a1 k u hm
      · exact b1 k u hm, v, vs', rfl, a2, b2⟩

theorem VFact.un {j : J} {i : PI} {tmps : Array Value} {jv : JV} {x : jv.ty.den} {v : Value} (f : VFact cl g w j.labs i jv x v) (hh : ∀ q, q ∈ jv.hids → q ∈ j.hids) :
    (∀ k u, (k, u) ∈ (unV jv x).1 → EFact cl g st w j i tmps k u) ∧ SVRep (i.gh g) (unV jv x).2 v := by
  cases jv with
  | leaf jl => obtain ⟨l, f⟩ := f; exact f.un hh
  | agg js =>
    obtain ⟨cs, ls, rfl, f⟩ := f
    obtain ⟨h1, h2⟩ := f.un (st := st) (tmps := tmps) hh
    exact ⟨h1, cs, rfl, h2⟩
  | ptr b off =>
    obtain ⟨q, ad, h1, h2, h3⟩ := f
    exact ⟨fun k u hm => by simp [unV] at hm, ad, by simp [PI.gh, h1, h2], h3⟩
  | fn fid caps =>
    obtain ⟨cs, h1, h2⟩ := f
    refine ⟨fun k u hm => by simp [unV] at hm, cs, h1, h2.imp fun c v _ hv => ?_⟩
    cases c with
    | none => exact hv
    | some p => obtain ⟨q, ad, e1, e2, e3⟩ := hv; exact ⟨ad, by simp [PI.gh, e1, e2], e3⟩

theorem VFacts.un {j : J} {i : PI} {tmps : Array Value} : ∀ {js : List (Nat × JV)} {x : (tysV js).den} {us : List Value}, VFacts cl g w j.labs i js x us → (∀ q, q ∈ js.flatMap (fun p => p.2.hids) → q ∈ j.hids) →
    us = js.map (fun p => tmps.getD p.1 undef) → ∀ k u, (k, u) ∈ unVs js x → EFact cl g st w j i tmps k u := by
  intro js
  induction js with
  | nil => intro x us _ _ _ k u hm; simp [unVs] at hm
  | cons jv js ih =>
    intro x us f hh hu k u hm
    obtain ⟨v, us', rfl, h1, h2⟩ := f
    simp only [List.map_cons, List.cons.injEq] at hu
    obtain ⟨a1, a2⟩ := h1.un (st := st) (tmps := tmps) fun q hq => hh q (by simp [hq])
    simp only [unVs, List.mem_cons, List.mem_append, Prod.mk.injEq] at hm
    rcases hm with ⟨rfl, rfl⟩ | hm | hm
    · exact ⟨_, rfl, by rw [← hu.1]; exact a2⟩
    · exact a1 k u hm
    · exact ih h2 (fun q hq => hh q (by simp only [List.flatMap_cons, List.mem_append]; exact .inr hq)) hu.2 k u hm

theorem BoxRep.mk {ad : Addr} {ls : List Leaf} {us : List Value} {arr : Array Value} {ty : TypeId} {fr : Nat × Nat} (h1 : w.heap[ad.block]? = some (.cells arr ty fr)) (h2 : ad.off + ls.length ≤ arr.size)
    (h3 : ∀ (j : Nat) (v : Value), us[j]? = some v → arr[ad.off + j]? = some v) (h4 : AllRep (LeafRep g) ls us) : BoxRep g w ad ls :=
  ⟨arr, ty, fr, h1, h2, fun j l hj => let ⟨v, hv, hl⟩ := h4.get j l hj; ⟨v, h3 j v hv, hl⟩⟩

theorem BFacts.un {j : J} {i : PI} {tmps : Array Value} : ∀ {bs : List (Nat × Bool × List JL)} {x : (tysB bs).den}, BFacts cl g st w j.labs i bs x → (∀ q, q ∈ bs.flatMap (fun b => b.2.2.flatMap JL.hids) → q ∈ j.hids) →
    (∀ b, b ∈ bs → b ∈ j.boxes) → ∀ k u, (k, u) ∈ unBs bs x → EFact cl g st w j i tmps k u := by
  intro bs
  induction bs with
  | nil => intro x _ _ _ k u hm; simp [unBs] at hm
  | cons b bs ih =>
    intro x f hh hb k u hm
    obtain ⟨⟨q, ro, ls, ad, arr, ty, fr, us, h1, h2, h3, h4, h5, h6, h7, h8⟩, f2⟩ := f
    obtain ⟨a1, a2⟩ := h8.un (st := st) (tmps := tmps) fun q hq => hh q (by simp only [List.flatMap_cons, List.mem_append]; exact .inl hq)
    simp only [unBs, List.mem_cons, List.mem_append, Prod.mk.injEq] at hm
    have hlen : (unLs b.2.2 x.1).2.length = ls.length := by
      have e1 := a2.length; have e2 := h8.lens; omega
    rcases hm with ⟨rfl, rfl⟩ | hm | hm
    · exact ⟨b.2.1, _, q, ro, ls, ad, rfl, h1, h2, h3, h4, hlen, BoxRep.mk h5 (by rw [hlen]; exact h6) h7 a2, b.2.2, hb _ (by simp)⟩
    · exact a1 k u hm
    · exact ih f2 (fun q hq => hh q (by simp only [List.flatMap_cons, List.mem_append]; exact .inr hq)) (fun b' h' => hb b' (by simp [h'])) k u hm

theorem PackFacts.un {j : J} {i : PI} {x : j.ty.den} {us : List Value} {tmps : Array Value} (f : PackFacts cl g st w j i x us) (hu : us = j.slots.map fun p => tmps.getD p.1 undef) :
    ∀ k u, (k, u) ∈ j.kv x → EFact cl g st w j i tmps k u := by
  intro k u hm
  simp only [J.kv, List.mem_append, List.mem_map] at hm
  rcases hm with ⟨p, hp, e⟩ | hm | hm
  · cases e; exact ⟨p.2, rfl⟩
  · exact f.vs.un (fun q hq => by simp only [J.hids, List.mem_append]; exact .inl hq) hu k u hm
  · exact f.bs.un (fun q hq => by simp only [J.hids, List.mem_append]; exact .inr hq) (fun b h => h) k u hm

theorem lookup_labs {rest : List (Key × UV)} : ∀ {labs : List (Nat × Bool)} {c : Nat}, (labs.map (fun p => (Key.lab p.1, UV.ep p.2 0)) ++ rest).lookup (.lab c) = match labs.lookup c with | some mt => some (.ep mt 0) | none => rest.lookup (.lab c) := by
  intro labs
  induction labs with
  | nil => intro c; rfl
  | cons p r ih =>
    intro c
    by_cases e : c = p.1
    · subst e; simp [List.lookup]
    · have h1 : (c == p.1) = false := by simpa using e
      have h2 : ((Key.lab c) == (Key.lab p.1)) = false := by simpa using e
      simp only [List.map_cons, List.cons_append, List.lookup, h1, h2]
      exact ih

theorem J.st_lab {j : J} {x : j.ty.den} {c : Nat} {mt : Bool} (h : j.labs.lookup c = some mt) : j.st x (.lab c) = .ep mt 0 := by
  simp [J.st, J.kv, lookup_labs, h]

theorem mem_hid {jl : JL} {x : jl.ty.den} {q : Nat} (h : q ∈ jl.hids) : ∃ r, (Key.hnd q, UV.hr r) ∈ (unLeaf jl x).1 := by
  cases jl <;> simp [JL.hids] at h
  subst h; exact ⟨_, by simp [unLeaf]; rfl⟩

theorem mem_hids : ∀ {js : List JL} {x : (Ty.of (js.map JL.ty)).den} {q : Nat}, q ∈ js.flatMap JL.hids → ∃ r, (Key.hnd q, UV.hr r) ∈ (unLs js x).1 := by
  intro js
  induction js with
  | nil => intro x q h; simp at h
  | cons jl js ih =>
    intro x q h
    simp only [List.flatMap_cons, List.mem_append] at h
    rcases h with h | h
    · obtain ⟨r, hr⟩ := mem_hid (x := x.1) h; exact ⟨r, by simp [unLs, hr]⟩
    · obtain ⟨r, hr⟩ := ih (x := x.2) h; exact ⟨r, by simp only [unLs, List.mem_append]; exact .inr hr⟩

theorem mem_hidsVs : ∀ {js : List (Nat × JV)} {x : (tysV js).den} {q : Nat}, q ∈ js.flatMap (fun p => p.2.hids) → ∃ r, (Key.hnd q, UV.hr r) ∈ unVs js x := by
  intro js
  induction js with
  | nil => intro x q h; simp at h
  | cons jv js ih =>
    intro x q h
    simp only [List.flatMap_cons, List.mem_append] at h
    rcases h with h | h
    · have : ∃ r, (Key.hnd q, UV.hr r) ∈ (unV jv.2 x.1).1 := by
        obtain ⟨n, jv⟩ := jv
        cases jv with
        | leaf jl => exact mem_hid h
        | agg js => exact mem_hids h
        | ptr _ _ => simp [JV.hids] at h
        | fn _ _ => simp [JV.hids] at h
      obtain ⟨r, hr⟩ := this
      exact ⟨r, by simp [unVs, hr]⟩
    · obtain ⟨r, hr⟩ := ih (x := x.2) h; exact ⟨r, by simp only [unVs, List.mem_cons, List.mem_append]; exact .inr (.inr hr)⟩

theorem mem_hidsBs : ∀ {bs : List (Nat × Bool × List JL)} {x : (tysB bs).den} {q : Nat}, q ∈ bs.flatMap (fun b => b.2.2.flatMap JL.hids) → ∃ r, (Key.hnd q, UV.hr r) ∈ unBs bs x := by
  intro bs
  induction bs with
  | nil => intro x q h; simp at h
  | cons b bs ih =>
    intro x q h
    simp only [List.flatMap_cons, List.mem_append] at h
    rcases h with h | h
    · obtain ⟨r, hr⟩ := mem_hids (x := x.1) h; exact ⟨r, by simp [unBs, hr]⟩
    · obtain ⟨r, hr⟩ := ih (x := x.2) h; exact ⟨r, by simp only [unBs, List.mem_cons, List.mem_append]; exact .inr (.inr hr)⟩

theorem mem_box : ∀ {bs : List (Nat × Bool × List JL)} {x : (tysB bs).den} {b : Nat × Bool × List JL}, b ∈ bs → ∃ v, (Key.box b.1, v) ∈ unBs bs x := by
  intro bs
  induction bs with
  | nil => intro x b h; simp at h
  | cons b' bs ih =>
    intro x b h
    rcases List.mem_cons.1 h with rfl | h
    · exact ⟨.bx b.2.1 (unLs b.2.2 x.1).2, by simp [unBs]⟩
    · obtain ⟨v, hv⟩ := ih (x := x.2) h; exact ⟨v, by simp only [unBs, List.mem_cons, List.mem_append]; exact .inr (.inr hv)⟩

end Go.Proofs.YtnnnpppodblblaaGreat.Ev
/-
The relation at a packed state: where ways meet, and at a call's begin.
-/
namespace Go.Proofs.YtnnnpppodblblaaGreat.Ev
open Go

variable {P : Program} {C : Ctx} {g : Gh} {st st' : St} {a : Act} {w : World} {α : Type} {tab : Tab} {labs : List (Nat × Bool)} {cl : Bool}

theorem apart_in {bs : List (Nat × Bool × List JL)} {bm : List (Nat × Nat)} (h : boxesApart bs bm = true) :
    (∀ b q, bm.lookup b = some q → ∃ e, e ∈ bs ∧ e.1 = b) ∧
    ∀ x, x ∈ bs → ∀ y, y ∈ bs → x.2.1 = false → x.1 ≠ y.1 → ∀ q q', bm.lookup x.1 = some q → bm.lookup y.1 = some q' → q ≠ q' := by
  simp only [boxesApart, Bool.and_eq_true, List.all_eq_true, List.any_eq_true, beq_iff_eq, Bool.or_eq_true] at h
  refine ⟨fun b q hb => ?_, fun x hx y hy hro hne q q' hq hq' => ?_⟩
  · obtain ⟨e, h1, h2⟩ := h.1 _ (lookup_mem hb); exact ⟨e, h1, h2⟩
  · have := h.2 x hx y hy
    rcases this with (h1 | h1) | h1
    · exact absurd h1 hne
    · rw [hro] at h1; simp at h1
    · rw [hq, hq'] at h1; simpa using h1

theorem PI.bxa_some {i : PI} {b : Nat} {ad : Addr} (h : (i.gh g).bxa b = some ad) : ∃ q, i.bm.lookup b = some q ∧ g.bxa q = some ad := by
  simp only [PI.gh] at h
  split at h
  · rename_i q hq; exact ⟨q, hq, h⟩
  · cases h

theorem PackFacts.core (h : Rel C g st a w) {j : J} {i : PI} {x : j.ty.den} {us : List Value} {tmps : Array Value} (f : PackFacts cl g st w j i x us) (hu : us = j.slots.map fun p => tmps.getD p.1 undef) :
    Core (i.gh g) (j.st x) tmps w := by
  have E := f.un hu
  have hok := f.ok
  simp only [packOk, Bool.and_eq_true] at hok
  obtain ⟨⟨hap, hhm⟩, hbm⟩ := hok
  obtain ⟨ap1, ap2⟩ := apart_in hap
  exact {
    slots := fun n v hv => by
      obtain ⟨s, e, h1⟩ := E _ _ (J.st_mem hv (by simp)); cases e; exact h1
    hnds := fun q r hv => by
      obtain ⟨r', u, l, e, h1, h2, _⟩ := E _ _ (J.st_mem hv (by simp)); cases e; exact ⟨u, h1, fun _ => h2⟩
    boxes := fun b ro ls hv => by
      obtain ⟨ro1, ls1, q, ro', ls', ad, e, h1, h2, h3, h4, h5, h6, _⟩ := E _ _ (J.st_mem hv (by simp)); cases e
      exact ⟨ad, by simp [PI.gh, h1, h4], h6⟩
    hdom := fun q v hv => by
      have : ∃ l, i.hm.lookup q = some l := by
        simp only [PI.gh] at hv
        split at hv
        · exact ⟨_, by assumption⟩
        · exact ⟨_, by assumption⟩
        · cases hv
      obtain ⟨l, hl⟩ := this
      have hc : q ∈ j.hids := by
        have := List.all_eq_true.1 hhm _ (lookup_mem hl)
        simpa using this
      have : ∃ r, (Key.hnd q, UV.hr r) ∈ j.kv x := by
        simp only [J.hids, List.mem_append] at hc
        rcases hc with hc | hc
        · obtain ⟨r, hr⟩ := mem_hidsVs (x := x.1) hc; exact ⟨r, by simp only [J.kv, List.mem_append]; exact .inr (.inl hr)⟩
        · obtain ⟨r, hr⟩ := mem_hidsBs (x := x.2) hc; exact ⟨r, by simp only [J.kv, List.mem_append]; exact .inr (.inr hr)⟩
      obtain ⟨r, hr⟩ := this
      obtain ⟨u, hu1, hu2⟩ := J.st_some hr
      obtain ⟨r', _, _, e, _⟩ := E _ _ hu2
      exact ⟨r', by rw [hu1, e]⟩
    bdom := fun b ad hv => by
      obtain ⟨q, hq, ha⟩ := PI.bxa_some hv
      refine ⟨(h.bdom q ad ha).1, ?_⟩
      obtain ⟨e, he, rfl⟩ := ap1 b q hq
      obtain ⟨v, hv⟩ := mem_box (x := x.2) he
      obtain ⟨u, hu1, hu2⟩ := J.st_some (j := j) (d := x) (k := .box e.1) (v := v) (by simp only [J.kv, List.mem_append]; exact .inr (.inr hv))
      obtain ⟨ro, ls, _, _, _, _, e', _⟩ := E _ _ hu2
      exact ⟨ro, ls, by rw [hu1, e']⟩
    hlabs := fun q r hv p hp => by
      obtain ⟨r', u, l, e, _, _, h3, _⟩ := E _ _ (J.st_mem hv (by simp)); cases e
      obtain ⟨p1, p2⟩ := h3 p hp
      cases hl : j.labs.lookup p.1 with
      | none => rw [hl] at p2; cases p2
      | some mt => exact ⟨mt, 0, J.st_lab hl, by omega⟩
    labs := fun b c hv => by
      obtain ⟨l, h1, h2⟩ := hv
      obtain ⟨_, mt, mt', n, h3, h4, _⟩ := f.lm l c h1
      exact ⟨⟨mt, 0, J.st_lab h3⟩, (h.labs b l h2).2⟩
    muts := fun b c n hv hn => by
      obtain ⟨l, h1, h2⟩ := hv
      obtain ⟨_, mt, mt', n', h3, h4, h5⟩ := f.lm l c h1
      rw [J.st_lab h3] at hn; cases hn
      have : mt' = true := by rcases h5 with h5 | h5
                              · cases h5
                              · exact h5
      subst this
      obtain ⟨p1, p2, p3, _⟩ := h.muts b l n' h2 h4
      refine ⟨fun c' hc' => ?_, fun r ad ha => ?_, p3⟩
      · obtain ⟨l', k1, k2⟩ := hc'
        rw [p1 l' k2, h1] at k1; exact (Option.some.inj k1).symm
      · obtain ⟨q, _, ha⟩ := PI.bxa_some ha
        exact p2 q ad ha
    wins := fun q p lo sz hv => (E _ _ (J.st_mem hv (by simp))).elim
    rws := fun r ls ad hv ha => by
      obtain ⟨ro1, ls1, q, ro', ls', ad', e, h1, h2, h3, h4, h5, h6, js, h7⟩ := E _ _ (J.st_mem hv (by simp)); cases e
      have h3 : ro' = false := by rcases h3 with h3 | h3
                                  · exact h3
                                  · cases h3
      subst h3
      obtain ⟨q0, hq0, ha0⟩ := PI.bxa_some ha
      rw [h1] at hq0; cases hq0
      rw [h4] at ha0; cases ha0
      obtain ⟨p1, p2, p3, _⟩ := h.rws q ls' ad h2 h4
      refine ⟨fun c hc => ?_, fun r' ad2 hne ha2 => ?_, p3⟩
      · obtain ⟨l, _, k2⟩ := hc; exact p1 l k2
      · obtain ⟨q2, hq2, ha3⟩ := PI.bxa_some ha2
        obtain ⟨e, he, rfl⟩ := ap1 r' q2 hq2
        have := ap2 _ h7 e he rfl (fun e' => hne e'.symm) q q2 h1 hq2
        exact p2 q2 ad2 (fun e' => this e'.symm) ha3 }

/-! ### one function's own context -/
def CtxOk (C : Ctx) : Prop := (∀ n, C.Pl n = isP n) ∧ (∀ n, C.Ph n = isP n) ∧ (∀ n, C.Pb n = isP n)

theorem isP_small {n : Nat} (h : n < 10000000) : isP n = false := by simp [isP]; omega

def Ctx.sized (C : Ctx) (n : Nat) : Ctx := { C with nt := n }

/-- Where ways meet: the same context. -/
theorem PackFacts.join (hc : CtxOk C) (h : Rel C g st a w) {j : J} {i : PI} {x : j.ty.den} {us : List Value} {a' : Act} (f : PackFacts false g st w j i x us) (hu : us = j.slots.map fun p => a'.tmps.getD p.1 undef)
    (hd : a'.defers = []) : Rel (C.sized a'.tmps.size) (i.gh g) (j.st x) a' w := by
  have c := f.core h hu
  have E := f.un hu
  have hok := f.ok
  simp only [packOk, Bool.and_eq_true, Bool.false_or] at hok
  obtain ⟨⟨hap, hhm⟩, hbm⟩ := hok
  have bmid : ∀ b q, i.bm.lookup b = some q → b = q := fun b q hq => by
    have := List.all_eq_true.1 hbm _ (lookup_mem hq); simpa using this
  exact { c with
    muts := fun b l n hv hn => by
      obtain ⟨p1, p2, p3⟩ := c.muts b l n hv hn
      refine ⟨p1, p2, p3, ?_⟩
      obtain ⟨l', h1, h2⟩ := hv
      obtain ⟨_, mt, mt', n', h3, h4, h5⟩ := f.lm l' l h1
      rw [J.st_lab h3] at hn; cases hn
      have : mt' = true := by rcases h5 with h5 | h5
                              · cases h5
                              · exact h5
      subst this
      exact (h.muts b l' n' h2 h4).2.2.2
    rws := fun r ls ad hv ha => by
      obtain ⟨p1, p2, p3⟩ := c.rws r ls ad hv ha
      refine ⟨p1, p2, p3, ?_⟩
      obtain ⟨ro1, ls1, q, ro', ls', ad', e, h1, h2, h3, h4, h5, h6, js, h7⟩ := E _ _ (J.st_mem hv (by simp)); cases e
      have h3 : ro' = false := by rcases h3 with h3 | h3
                                  · exact h3
                                  · cases h3
      subst h3
      obtain ⟨q0, hq0, ha0⟩ := PI.bxa_some ha
      rw [h1] at hq0; cases hq0
      rw [h4] at ha0; cases ha0
      rw [h5]
      exact (h.rws q ls' ad h2 h4).2.2.2
    pls := fun b c' hv => by
      obtain ⟨l, h1, h2⟩ := hv
      obtain ⟨k1, _⟩ := f.lm l c' h1
      rcases k1 with k1 | k1 | ⟨k1, k2⟩
      · cases k1
      · subst k1; exact h.pls b _ h2
      · exact ⟨fun e => (by rw [show (C.sized a'.tmps.size).Pl c' = C.Pl c' from rfl, hc.1, k1] at e; cases e), fun _ => (h.pls b l h2).2 (by rw [hc.1, k2])⟩
    phs := fun q hq v hv => by
      have hp : isP q = true := by rw [← hc.2.1 q]; exact hq
      obtain ⟨r, hr⟩ := c.hdom q v hv
      obtain ⟨r', u, l, e, h1, h2, h3, h4, h5, _⟩ := E _ _ (J.st_mem hr (by simp))
      have : l = .sl q := by
        rcases h5 with h5 | h5 | h5
        · cases h5
        · rw [hp] at h5; cases h5
        · exact leafSame_sl h5
      subst this
      have : g.hd q = some v := by simpa [PI.gh, h4] using hv
      exact h.phs q hq v this
    pbs := fun b hb ad ha => by
      obtain ⟨q, hq, ha⟩ := PI.bxa_some ha
      have := bmid b q hq; subst this
      exact h.pbs _ hb ad ha
    nbs := fun b hb ad ha => by
      obtain ⟨q, hq, ha⟩ := PI.bxa_some ha
      have := bmid b q hq; subst this
      exact h.nbs _ hb ad ha
    frame := h.frame
    cells := h.cells
    size := h.size
    os := h.os
    tape := h.tape
    output := h.output
    defers := hd
    nt := rfl }

/-- A call's context. -/
def entryCtx (g : Gh) (st : St) (w : World) (nt : Nat) : Ctx where
  w0 := w
  lb0 := g.lb
  Pl := isP
  Ph := isP
  Pb := isP
  hd0 := g.hd
  bx0 := g.bxa
  Open := fun b => ∃ c n, st (.lab c) = .ep true n ∧ g.lb b c
  Rng := fun b o => ∃ r ls ad, st (.box r) = .bx false ls ∧ g.bxa r = some ad ∧ ad.block = b ∧ ∃ k, k < ls.length ∧ o = ad.off + k
  nt := nt
  own := fun n hn => ⟨isP_small hn, isP_small hn, isP_small hn⟩

theorem entry_ok (g : Gh) (st : St) (w : World) (nt : Nat) : CtxOk (entryCtx g st w nt) := ⟨fun _ => rfl, fun _ => rfl, fun _ => rfl⟩

theorem Core.entry {g : Gh} {st : St} {a : Act} {w : World} (c : Core g st a.tmps w) (hl : ∀ b l, g.lb b l → isP l = true) (hb : ∀ b ad, g.bxa b = some ad → isP b = true) (hd : a.defers = []) : Rel (entryCtx g st w a.tmps.size) g st a w :=
  { c with
    muts := fun b l n hv hn => let ⟨p1, p2, p3⟩ := c.muts b l n hv hn; ⟨p1, p2, p3, fun _ => ⟨l, n, hn, hv⟩⟩
    rws := fun r ls ad hv ha => let ⟨p1, p2, p3⟩ := c.rws r ls ad hv ha; ⟨p1, p2, p3, fun _ k hk => ⟨r, ls, ad, hv, ha, rfl, k, hk, rfl⟩⟩
    pls := fun b l hv => ⟨fun _ => hv, fun e => (by rw [show (entryCtx g st w a.tmps.size).Pl l = isP l from rfl, hl b l hv] at e; cases e)⟩
    phs := fun q _ v hv => hv
    pbs := fun b _ ad ha => ha
    nbs := fun b e ad ha => (by rw [show (entryCtx g st w a.tmps.size).Pb b = isP b from rfl, hb b ad ha] at e; cases e)
    frame := fun b _ _ => BlockKept.refl _ _
    cells := fun _ hb => hb
    size := Nat.le_refl _
    os := rfl
    tape := rfl
    output := rfl
    defers := hd
    nt := rfl }

end Go.Proofs.YtnnnpppodblblaaGreat.Ev
/-
After a call: the caller's state in the callee's world.
-/
namespace Go.Proofs.YtnnnpppodblblaaGreat.Ev
open Go

variable {P : Program} {C : Ctx} {g : Gh} {st st' : St} {a : Act} {w : World} {α : Type} {tab : Tab} {labs : List (Nat × Bool)} {cl : Bool}

/-- New labels after a call: the callee's, ours, whether it may be written. -/
abbrev NL := List (Nat × Nat × Bool)

def Gh.ret (g g2 : Gh) (fl : NL) : Gh := { g with lb := fun b l => g.lb b l ∨ ∃ c mt, (c, l, mt) ∈ fl ∧ g2.lb b c }

theorem Gh.ret_ext (g g2 : Gh) (fl : NL) : GhExt g (g.ret g2 fl) := ⟨fun _ _ h => h, fun _ _ h => h, fun _ _ h => .inl h⟩

structure RetSt (st st1 : St) (mus rwq : List Nat) (fl : NL) : Prop where
  slot : ∀ n, st1 (.slot n) = st (.slot n)
  hnd : ∀ n, st1 (.hnd n) = st (.hnd n)
  win : ∀ n, st1 (.win n) = st (.win n)
  box : ∀ q, q ∉ rwq → st1 (.box q) = st (.box q)
  boxr : ∀ q, q ∈ rwq → ∃ ls, st (.box q) = .bx false ls ∧ st1 (.box q) = .bx false (ls.map fun _ => .dead)
  mu : ∀ l, l ∈ mus → ∃ m m', st (.lab l) = .ep true m ∧ st1 (.lab l) = .ep true m' ∧ m < m'
  new : ∀ c l mt, (c, l, mt) ∈ fl → l < 10000000 ∧ st1 (.lab l) = .ep mt 0
  lab : ∀ l, l ∉ mus → st (.lab l) ≠ .no → st1 (.lab l) = st (.lab l)

theorem BlockKept.mono {R R' : Nat → Prop} {o o' : Option Obj} (h : BlockKept R o o') (hr : ∀ i, R i → R' i) : BlockKept R' o o' := by
  rcases h with h | ⟨a1, a2, t, fr, e1, e2, e3, e4⟩
  · exact .inl h
  · exact .inr ⟨a1, a2, t, fr, e1, e2, e3, fun i hi => e4 i fun h => hi (hr i h)⟩

theorem Rel.ret (h : Rel C g st a w) (hc : CtxOk C) {j : J} {i : PI} {x : j.ty.den} {us0 : List Value} {tmps : Array Value} (f : PackFacts true g st w j i x us0) (hu : us0 = j.slots.map fun p => tmps.getD p.1 undef)
    {n2 : Nat} {g2 : Gh} {st2 : St} {a2 : Act} {w2 : World} (h2 : Rel (entryCtx (i.gh g) (j.st x) w n2) g2 st2 a2 w2)
    {st1 : St} {mus rwq : List Nat} {fl : NL} (hs : RetSt st st1 mus rwq fl)
    (hmu : ∀ l c, i.lm.lookup l = some c → j.labs.lookup c = some true → l ∈ mus)
    (hrw : ∀ b js q, (b, false, js) ∈ j.boxes → i.bm.lookup b = some q → q ∈ rwq)
    (hrw' : ∀ q ls, q ∈ rwq → st (.box q) = .bx false ls → ∃ b ro2 ls2, i.bm.lookup b = some q ∧ isP b = true ∧ st2 (.box b) = .bx ro2 ls2 ∧ ls2.length = ls.length)
    (hfl : ∀ c l mt, (c, l, mt) ∈ fl → isP c = false ∧ (mt = true → ∃ n, st2 (.lab c) = .ep true n))
    (hinj : ∀ c c' l mt mt', (c, l, mt) ∈ fl → (c', l, mt') ∈ fl → c = c' ∧ mt = mt') (hinj' : ∀ c l l' mt mt', (c, l, mt) ∈ fl → (c, l', mt') ∈ fl → l = l') :
    Rel C (g.ret g2 fl) st1 a w2 := by
  have E := f.un hu
  have ex := Gh.ret_ext g g2 fl
  have open1 : ∀ b, (entryCtx (i.gh g) (j.st x) w n2).Open b → ∃ l n, l ∈ mus ∧ g.lb b l ∧ st (.lab l) = .ep true n := by
    rintro b ⟨c, n, hc1, l, h1, h2'⟩
    obtain ⟨_, mt, mt', n', h3, h4, h5⟩ := f.lm l c h1
    rw [J.st_lab h3] at hc1; cases hc1
    have : mt' = true := by rcases h5 with h5 | h5
                            · cases h5
                            · exact h5
    subst this
    exact ⟨l, n', hmu l c h1 h3, h2', h4⟩
  have rng1 : ∀ b o, (entryCtx (i.gh g) (j.st x) w n2).Rng b o → ∃ q ls ad, q ∈ rwq ∧ st (.box q) = .bx false ls ∧ g.bxa q = some ad ∧ ad.block = b ∧ ∃ k, k < ls.length ∧ o = ad.off + k := by
    rintro b o ⟨r, ls, ad, hr, ha, hb, k, hk, ho⟩
    obtain ⟨ro1, ls1, q, ro', ls', ad', e, k1, k2, k3, k4, k5, k6, js, k7⟩ := E _ _ (J.st_mem hr (by simp)); cases e
    have k3 : ro' = false := by rcases k3 with k3 | k3
                                · exact k3
                                · cases k3
    subst k3
    obtain ⟨q0, hq0, ha0⟩ := PI.bxa_some ha
    rw [k1] at hq0; cases hq0
    exact ⟨q, ls', ad, hrw _ _ _ k7 k1, k2, ha0, hb, k, by omega, ho⟩
  have blt : ∀ r ad, g.bxa r = some ad → ad.block < w.heap.size := fun r ad ha => by
    obtain ⟨ro, ls, hb⟩ := (h.bdom r ad ha).2
    obtain ⟨ad', ha', hrep⟩ := h.boxes r ro ls hb
    rw [ha] at ha'; cases ha'
    exact hrep.lt
  have kept : ∀ b, b < w.heap.size → (∀ l, l ∈ mus → ¬ g.lb b l) → (∀ q ad, q ∈ rwq → g.bxa q = some ad → ad.block ≠ b) → w2.heap[b]? = w.heap[b]? := fun b hb k1 k2 =>
    (h2.frame b hb fun ho => by obtain ⟨l, n, m1, m2, _⟩ := open1 b ho; exact k1 l m1 m2).none fun o ho => by
      obtain ⟨q, ls, ad, m1, m2, m3, m4, _⟩ := rng1 b o ho; exact k2 q ad m1 m3 m4
  have keptL : ∀ b l, g.lb b l → l ∉ mus → w2.heap[b]? = w.heap[b]? := fun b l hl hn => kept b (h.labs b l hl).2
    (fun l' hl' hb => by
      obtain ⟨m, m', k1, _⟩ := hs.mu l' hl'
      have := (h.muts b l' m hb k1).1 l hl
      exact hn (this ▸ hl'))
    fun q ad hq ha e => by
      obtain ⟨ls, k1, _⟩ := hs.boxr q hq
      exact (h.rws q ls ad k1 ha).1 l (e ▸ hl)
  have new_ge : ∀ b c l mt, (c, l, mt) ∈ fl → g2.lb b c → w.heap.size ≤ b := fun b c l mt hm hb => (h2.pls b c hb).2 (hfl c l mt hm).1
  have boxlen : ∀ r ls, st1 (.box r) = .bx false ls → ∃ ls0, st (.box r) = .bx false ls0 ∧ ls0.length = ls.length := fun r ls hr => by
    by_cases hq : r ∈ rwq
    · obtain ⟨ls0, k1, k2⟩ := hs.boxr r hq
      rw [hr] at k2; cases k2; exact ⟨ls0, k1, by simp⟩
    · exact ⟨ls, by rw [← hs.box r hq]; exact hr, rfl⟩
  exact {
    slots := fun n v hn => by rw [hs.slot] at hn; exact (h.slots n v hn).ext ex
    hnds := fun q r hq => by
      rw [hs.hnd] at hq
      obtain ⟨v, k1, k2⟩ := h.hnds q r hq
      refine ⟨v, k1, fun ha => ?_⟩
      have nm : ∀ p, p ∈ r.spine ++ r.inner → p.1 ∉ mus := fun p hp hm => by
        obtain ⟨m, m', e1, e2, e3⟩ := hs.mu p.1 hm
        obtain ⟨m3, n3, e4, e5⟩ := h.hlabs q r hq p hp
        obtain ⟨m4, e6⟩ := ha p hp
        rw [e1] at e4; cases e4
        rw [e2] at e6; cases e6
        omega
      have ha' : Alive st r := fun p hp => by
        obtain ⟨m4, e6⟩ := ha p hp
        obtain ⟨m3, n3, e4, e5⟩ := h.hlabs q r hq p hp
        exact ⟨m4, by rw [← hs.lab p.1 (nm p hp) (by rw [e4]; simp)]; exact e6⟩
      have hL : ∀ (s : List (Nat × Nat)), (∀ p, p ∈ s → p ∈ r.spine ++ r.inner) → ∀ b, LB g s b → LB (g.ret g2 fl) s b ∧ w2.heap[b]? = w.heap[b]? := fun s hsub b hb => by
        refine ⟨LB.ext ex hb, ?_⟩
        obtain ⟨p, p1, p2⟩ := hb
        exact keptL b p.1 p2 (nm p (hsub p p1))
      exact (k2 ha').mono (hL _ fun p hp => by simp [hp]) fun x cs hx => DRep.mono (hL _ fun p hp => by simp [hp]) hx
    boxes := fun b ro ls hb => by
      by_cases hq : b ∈ rwq
      · obtain ⟨ls0, k1, k2⟩ := hs.boxr b hq
        rw [hb] at k2; cases k2
        obtain ⟨ad, ha, hrep⟩ := h.boxes b false ls0 k1
        refine ⟨ad, ha, ?_⟩
        obtain ⟨b', ro2, ls2, e1, e2, e3, e4⟩ := hrw' b ls0 hq k1
        obtain ⟨ad2, e5, arr, ty, fr, e6, e7, e8⟩ := h2.boxes b' ro2 ls2 e3
        have e9 := h2.pbs b' e2 ad2 e5
        have e9 : (i.gh g).bxa b' = some ad2 := e9
        obtain ⟨q', f1, f2⟩ := PI.bxa_some e9
        rw [e1] at f1; cases f1
        rw [ha] at f2; cases f2
        refine ⟨arr, ty, fr, e6, by simp; omega, fun k l hk => ?_⟩
        have hkl : k < ls2.length := by
          have := (List.getElem?_eq_some_iff.1 hk).1
          simp at this; omega
        obtain ⟨v, v1, v2⟩ := e8 k ls2[k] (List.getElem?_eq_getElem hkl)
        have : l = .dead := by simp at hk; exact hk.2.symm
        subst this
        exact ⟨v, v1, LeafRep.one v2⟩
      · rw [hs.box b hq] at hb
        obtain ⟨ad, ha, hrep⟩ := h.boxes b ro ls hb
        refine ⟨ad, ha, (hrep.ext ex).world (kept _ hrep.lt (fun l hl hlb => ?_) fun q ad' hq' ha' e => ?_)⟩
        · obtain ⟨m, m', k1, _⟩ := hs.mu l hl
          exact (h.muts _ l m hlb k1).2.1 b ad ha rfl
        · obtain ⟨ls', k1, _⟩ := hs.boxr q hq'
          exact (h.rws q ls' ad' k1 ha').2.1 b ad (fun e' => hq (e' ▸ hq')) ha e.symm
    hdom := fun q v hv => by rw [hs.hnd]; exact h.hdom q v hv
    bdom := fun b ad ha => by
      obtain ⟨k1, ro, ls, k2⟩ := h.bdom b ad ha
      refine ⟨k1, ?_⟩
      by_cases hq : b ∈ rwq
      · obtain ⟨ls0, _, k3⟩ := hs.boxr b hq; exact ⟨_, _, k3⟩
      · exact ⟨ro, ls, by rw [hs.box b hq]; exact k2⟩
    hlabs := fun q r hq p hp => by
      rw [hs.hnd] at hq
      obtain ⟨m, n, e1, e2⟩ := h.hlabs q r hq p hp
      by_cases hm : p.1 ∈ mus
      · obtain ⟨m0, m', k1, k2, k3⟩ := hs.mu _ hm
        rw [e1] at k1; cases k1
        exact ⟨true, m', k2, by omega⟩
      · exact ⟨m, n, by rw [hs.lab _ hm (by rw [e1]; simp)]; exact e1, e2⟩
    labs := fun b l hl => by
      rcases hl with hl | ⟨c, mt, k1, k2⟩
      · obtain ⟨⟨m, n, e1⟩, e2⟩ := h.labs b l hl
        refine ⟨?_, Nat.lt_of_lt_of_le e2 h2.size⟩
        by_cases hm : l ∈ mus
        · obtain ⟨m0, m', _, k2, _⟩ := hs.mu _ hm; exact ⟨_, _, k2⟩
        · exact ⟨m, n, by rw [hs.lab _ hm (by rw [e1]; simp)]; exact e1⟩
      · exact ⟨⟨mt, 0, (hs.new c l mt k1).2⟩, (h2.labs b c k2).2⟩
    muts := fun b l n hl hn => by
      rcases hl with hl | ⟨c, mt, k1, k2⟩
      · have : ∃ n', st (.lab l) = .ep true n' := by
          by_cases hm : l ∈ mus
          · obtain ⟨m0, m', k1, _⟩ := hs.mu _ hm; exact ⟨_, k1⟩
          · obtain ⟨⟨m, n', e1⟩, _⟩ := h.labs b l hl
            exact ⟨n, by rw [← hs.lab _ hm (by rw [e1]; simp)]; exact hn⟩
        obtain ⟨n', hn'⟩ := this
        obtain ⟨p1, p2, p3, p4⟩ := h.muts b l n' hl hn'
        refine ⟨fun l' hl' => ?_, p2, h2.cells b p3, p4⟩
        rcases hl' with hl' | ⟨c, mt, k1, k2⟩
        · exact p1 l' hl'
        · have := new_ge b c l' mt k1 k2
          have := (h.labs b l hl).2
          omega
      · have hmt : mt = true := by
          have := (hs.new c l mt k1).2
          rw [hn] at this; cases this; rfl
        obtain ⟨n2', hn2⟩ := (hfl c l mt k1).2 hmt
        obtain ⟨p1, p2, p3, p4⟩ := h2.muts b c n2' k2 hn2
        have hge := new_ge b c l mt k1 k2
        refine ⟨fun l' hl' => ?_, fun r ad ha => ?_, p3, fun hlt => ?_⟩
        · rcases hl' with hl' | ⟨c', mt', k3, k4⟩
          · have := (h.labs b l' hl').2; omega
          · have := p1 c' k4; subst this
            exact hinj' _ _ _ _ _ k3 k1
        · have := blt r ad ha; omega
        · have := h.size; omega
    rws := fun r ls ad hr ha => by
      obtain ⟨ls0, k1, k2⟩ := boxlen r ls hr
      obtain ⟨p1, p2, p3, p4⟩ := h.rws r ls0 ad k1 ha
      refine ⟨fun l hl => ?_, p2, h2.cells _ p3, fun hlt k hk => p4 hlt k (by omega)⟩
      rcases hl with hl | ⟨c, mt, k3, k4⟩
      · exact p1 l hl
      · have := new_ge _ c l mt k3 k4
        have := blt r ad ha
        omega
    pls := fun b l hl => by
      rcases hl with hl | ⟨c, mt, k3, k4⟩
      · exact h.pls b l hl
      · have h1 := isP_small (hs.new c l mt k3).1
        rw [← hc.1] at h1
        refine ⟨fun e => (by rw [h1] at e; cases e), fun _ => ?_⟩
        have := new_ge _ c l mt k3 k4
        have := h.size
        omega
    phs := h.phs
    pbs := h.pbs
    wins := fun q p lo sz hq => by rw [hs.win] at hq; exact (h.wins q p lo sz hq).ext ex
    nbs := h.nbs
    frame := fun b hb ho => by
      refine (h.frame b hb ho).trans ((h2.frame b (Nat.lt_of_lt_of_le hb h.size) fun ho2 => ?_).mono fun o hR => ?_)
      · obtain ⟨l, n, m1, m2, m3⟩ := open1 b ho2
        exact ho ((h.muts b l n m2 m3).2.2.2 hb)
      · obtain ⟨q, ls, ad, m1, m2, m3, m4, k, hk, m5⟩ := rng1 b o hR
        subst m4; subst m5
        exact (h.rws q ls ad m2 m3).2.2.2 hb k hk
    cells := fun b hb => h2.cells b (h.cells b hb)
    size := Nat.le_trans h.size h2.size
    os := h2.os.trans h.os
    tape := h2.tape.trans h.tape
    output := h2.output.trans h.output
    defers := h.defers
    nt := h.nt }

end Go.Proofs.YtnnnpppodblblaaGreat.Ev
/-
What a call's results are to the caller.
-/
namespace Go.Proofs.YtnnnpppodblblaaGreat.Ev
open Go

variable {P : Program} {C : Ctx} {g : Gh} {st st' : St} {a : Act} {w : World} {α : Type} {tab : Tab} {labs : List (Nat × Bool)} {cl : Bool}

def bumpN (l : List Nat) (n : Acc α) : Acc α :=
  match l with
  | [] => n
  | c :: r => .rd (.lab c) fun | .ep true m => .wr (.lab c) (.ep true (m + 1)) (bumpN r n) | _ => .fail

def resetB (l : List Nat) (n : Acc α) : Acc α :=
  match l with
  | [] => n
  | q :: r => .rd (.box q) fun | .bx false ls => .wr (.box q) (.bx false (ls.map fun _ => .dead)) (resetB r n) | _ => .fail

def mkLs (fl : NL) (n : Acc α) : Acc α :=
  match fl with
  | [] => n
  | p :: r => if p.2.1 < 10000000 then .rd (.lab p.2.1) fun | .no => .wr (.lab p.2.1) (.ep p.2.2 0) (mkLs r n) | _ => .fail else .fail

theorem bumpN_run : ∀ {l : List Nat} {n : Acc α} {st : St} {p : α × St}, (bumpN l n).run st = some p →
    ∃ st1, (∀ c, c ∈ l → ∃ m m', st (.lab c) = .ep true m ∧ st1 (.lab c) = .ep true m' ∧ m < m') ∧ (∀ k, (∀ c, c ∈ l → k ≠ .lab c) → st1 k = st k) ∧ n.run st1 = some p := by
  intro l
  induction l with
  | nil => intro n st p h; exact ⟨st, fun c hc => by simp at hc, fun _ _ => rfl, h⟩
  | cons c r ih =>
    intro n st p h
    simp only [bumpN, Acc.run] at h
    split at h
    · rename_i m hm
      simp only [Acc.run] at h
      obtain ⟨st1, h1, h2, h3⟩ := ih h
      refine ⟨st1, fun c' hc' => ?_, fun k hk => ?_, h3⟩
      · by_cases e : c' ∈ r
        · obtain ⟨m1, m', k1, k2, k3⟩ := h1 c' e
          by_cases e' : c' = c
          · subst e'; rw [St.set_same] at k1; cases k1; exact ⟨m, m', hm, k2, by omega⟩
          · rw [St.set_ne _ _ (by simpa using e')] at k1; exact ⟨m1, m', k1, k2, k3⟩
        · rcases List.mem_cons.1 hc' with e' | e'
          · subst e'
            exact ⟨m, m + 1, hm, by rw [h2 _ (fun x hx e'' => by cases e''; exact e hx), St.set_same], by omega⟩
          · exact absurd e' e
      · rw [h2 k fun c' hc' => hk c' (by simp [hc']), St.set_ne _ _ (hk c (by simp))]
    · simp [Acc.run] at h

theorem resetB_run : ∀ {l : List Nat} {n : Acc α} {st : St} {p : α × St}, (resetB l n).run st = some p →
    ∃ st1, (∀ q, q ∈ l → ∃ ls, st (.box q) = .bx false ls ∧ st1 (.box q) = .bx false (ls.map fun _ => .dead)) ∧ (∀ k, (∀ q, q ∈ l → k ≠ .box q) → st1 k = st k) ∧ n.run st1 = some p := by
  intro l
  induction l with
  | nil => intro n st p h; exact ⟨st, fun c hc => by simp at hc, fun _ _ => rfl, h⟩
  | cons c r ih =>
    intro n st p h
    simp only [resetB, Acc.run] at h
    split at h
    · rename_i ls hm
      simp only [Acc.run] at h
      obtain ⟨st1, h1, h2, h3⟩ := ih h
      refine ⟨st1, fun c' hc' => ?_, fun k hk => ?_, h3⟩
      · by_cases e : c' ∈ r
        · obtain ⟨ls1, k1, k2⟩ := h1 c' e
          by_cases e' : c' = c
          · subst e'; rw [St.set_same] at k1; cases k1; exact ⟨ls, hm, by rw [k2]; simp⟩
          · rw [St.set_ne _ _ (by simpa using e')] at k1; exact ⟨ls1, k1, k2⟩
        · rcases List.mem_cons.1 hc' with e' | e'
          · subst e'
            exact ⟨ls, hm, by rw [h2 _ (fun x hx e'' => by cases e''; exact e hx), St.set_same]⟩
          · exact absurd e' e
      · rw [h2 k fun c' hc' => hk c' (by simp [hc']), St.set_ne _ _ (hk c (by simp))]
    · simp [Acc.run] at h

theorem mkLs_run : ∀ {fl : NL} {n : Acc α} {st : St} {p : α × St}, (mkLs fl n).run st = some p →
    ∃ st1, (∀ c l mt, (c, l, mt) ∈ fl → l < 10000000 ∧ st (.lab l) = .no ∧ st1 (.lab l) = .ep mt 0) ∧ (∀ k, st k ≠ .no → st1 k = st k) ∧ (∀ k, (∀ l, k ≠ .lab l) → st1 k = st k) ∧
      (∀ c c' l mt mt', (c, l, mt) ∈ fl → (c', l, mt') ∈ fl → mt = mt') ∧ n.run st1 = some p := by
  intro fl
  induction fl with
  | nil => intro n st p h; exact ⟨st, fun c l mt hc => by simp at hc, fun _ _ => rfl, fun _ _ => rfl, fun c c' l mt mt' hc => by simp at hc, h⟩
  | cons q r ih =>
    intro n st p h
    simp only [mkLs] at h
    split at h
    · rename_i hlt
      simp only [Acc.run] at h
      split at h
      · rename_i hno
        simp only [Acc.run] at h
        obtain ⟨st1, h1, h2, h3, h4, h5⟩ := ih h
        have hne : ∀ c l mt, (c, l, mt) ∈ r → l ≠ q.2.1 := fun c l mt hm e => by
          obtain ⟨_, k1, _⟩ := h1 c l mt hm
          rw [e, St.set_same] at k1; cases k1
        refine ⟨st1, fun c l mt hm => ?_, fun k hk => ?_, fun k hk => ?_, fun c c' l mt mt' hm hm' => ?_, h5⟩
        · rcases List.mem_cons.1 hm with e | e
          · subst e; exact ⟨hlt, hno, by rw [h2 _ (by rw [St.set_same]; simp), St.set_same]⟩
          · obtain ⟨k1, k2, k3⟩ := h1 c l mt e
            rw [St.set_ne _ _ (by simpa using hne c l mt e)] at k2
            exact ⟨k1, k2, k3⟩
        · have : k ≠ .lab q.2.1 := fun e => by subst e; exact hk hno
          rw [h2 k (by rw [St.set_ne _ _ this]; exact hk), St.set_ne _ _ this]
        · rw [h3 k hk, St.set_ne _ _ (hk _)]
        · rcases List.mem_cons.1 hm with e | e
          · rcases List.mem_cons.1 hm' with e' | e'
            · rw [← e] at e'; cases e'; rfl
            · subst e; exact absurd rfl (hne _ _ _ e')
          · rcases List.mem_cons.1 hm' with e' | e'
            · subst e'; exact absurd rfl (hne _ _ _ e)
            · exact h4 _ _ _ _ _ e e'
      · simp [Acc.run] at h
    · simp [Acc.run] at h

def agesOf (l : List Nat) (k : List (Nat × Nat) → Acc α) : Acc α :=
  match l with
  | [] => k []
  | c :: r => .rd (.lab c) fun | .ep _ n => agesOf r fun t => k ((c, n) :: t) | _ => .fail

theorem agesOf_run : ∀ {l : List Nat} {k : List (Nat × Nat) → Acc α} {p : α × St}, (agesOf l k).run st = some p →
    ∃ s, (∀ c, c ∈ l → ∃ n, (c, n) ∈ s) ∧ (∀ q, q ∈ s → ∃ m, st (.lab q.1) = .ep m q.2) ∧ (k s).run st = some p := by
  intro l
  induction l with
  | nil => intro k p h; exact ⟨[], fun c hc => by simp at hc, fun c hc => by simp at hc, h⟩
  | cons c r ih =>
    intro k p h
    simp only [agesOf, Acc.run] at h
    split at h
    · rename_i m n hm
      obtain ⟨s, h1, h2, h3⟩ := ih h
      refine ⟨(c, n) :: s, fun c' hc' => ?_, fun q hq => ?_, h3⟩
      · rcases List.mem_cons.1 hc' with e | e
        · subst e; exact ⟨n, by simp⟩
        · obtain ⟨n', hn'⟩ := h1 c' e; exact ⟨n', by simp [hn']⟩
      · rcases List.mem_cons.1 hq with e | e
        · subst e; exact ⟨m, hm⟩
        · exact h2 q e
    · simp [Acc.run] at h

/-- The callee's label is ours. -/
def trL (d : Nat) (i : PI) (c : Nat) : List Nat := if isP c = true then (i.lm.filter fun p => p.2 == c).map (·.1) else [64 * d + (c - CAN)]

def unretLeaf (d : Nat) (i : PI) (labs : List (Nat × Bool)) (jl : JL) (x : jl.ty.den) (k : Leaf → Acc α) : Acc α :=
  match jl, x with
  | .dead, _ => k .dead
  | .sc t, x => k (scOf t x)
  | .ref _, _ => .fail
  | .sl e hid sp inn, xs =>
    if ((sp ++ inn).all fun c => (labs.lookup c).isSome) = true then
      agesOf (sp.flatMap (trL d i)) fun s => agesOf (inn.flatMap (trL d i)) fun n =>
        if isP hid = true then
          match i.hm.lookup hid with
          | some .nil => k .nil
          | some (.sl q) => if ((sp ++ inn).all fun c => isP c && labs.lookup c == some false) = true then k (.sl q) else .wr (.hnd q) (.hr ⟨e, s, n, xs⟩) (k (.sl q))
          | _ => .fail
        else mkH (64 * d + (hid - CAN)) ⟨e, s, n, xs⟩ (k (.sl (64 * d + (hid - CAN))))
    else .fail

def unretLs (d : Nat) (i : PI) (labs : List (Nat × Bool)) : (js : List JL) → (Ty.of (js.map JL.ty)).den → (List Leaf → Acc α) → Acc α
  | [], _, k => k []
  | j :: js, x, k => unretLeaf d i labs j x.1 fun l => unretLs d i labs js x.2 fun r => k (l :: r)

def unretV (d : Nat) (i : PI) (labs : List (Nat × Bool)) (nbl : List (Nat × Nat)) (v : JV) (x : v.ty.den) (k : SV → Acc α) : Acc α :=
  match v, x with
  | .leaf j, x => unretLeaf d i labs j x fun l => k (.val (.leaf l))
  | .agg js, x => unretLs d i labs js x fun ls => k (.val (.agg ls))
  | .ptr b off, _ => match nbl.lookup b with | some q => k (.ptr q off) | none => .fail
  | .fn _ _, _ => .fail

def unretVs (d : Nat) (i : PI) (labs : List (Nat × Bool)) (nbl : List (Nat × Nat)) : (js : List (Nat × JV)) → (tysV js).den → (List SV → Acc α) → Acc α
  | [], _, k => k []
  | j :: js, x, k => unretV d i labs nbl j.2 x.1 fun v => unretVs d i labs nbl js x.2 fun r => k (v :: r)

def unretBs (d : Nat) (i : PI) (labs : List (Nat × Bool)) (nbl : List (Nat × Nat)) : (bs : List (Nat × Bool × List JL)) → (tysB bs).den → Acc α → Acc α
  | [], _, n => n
  | b :: r, x, n => if b.2.1 = true then unretBs d i labs nbl r x.2 n else
    match (if isP b.1 = true then i.bm.lookup b.1 else nbl.lookup b.1) with
    | none => .fail
    | some q => unretLs d i labs b.2.2 x.1 fun ls => .rd (.box q) fun
        | .bx false ls0 => if ls.length = ls0.length then .wr (.box q) (.bx false ls) (unretBs d i labs nbl r x.2 n) else .fail
        | _ => .fail

/-- Variables that the callee made: nothing is told of them yet. -/
def mkBs (fl : List (Nat × Nat × Nat)) (n : Acc α) : Acc α :=
  match fl with
  | [] => n
  | p :: r => if p.2.1 < 10000000 then .rd (.box p.2.1) fun | .no => .wr (.box p.2.1) (.bx false (List.replicate p.2.2 .dead)) (mkBs r n) | _ => .fail else .fail

/-- What stands fixed while results are taken. -/
structure Bk (C : Ctx) (g gR : Gh) (d : Nat) (i : PI) (labs : List (Nat × Bool)) (nbl : List (Nat × Nat)) (g2 : Gh) (st2 : St) (w2 : World) : Prop where
  hd : gR.hd = g.hd
  bxa : ∀ q ad, g.bxa q = some ad → gR.bxa q = some ad
  nb : ∀ c q, nbl.lookup c = some q → ∃ ad, g2.bxa c = some ad ∧ gR.bxa q = some ad
  lab : ∀ b c, g2.lb b c → (labs.lookup c).isSome = true → ∃ l, l ∈ trL d i c ∧ gR.lb b l
  ph : ∀ q v, isP q = true → g2.hd q = some v → (i.gh g).hd q = some v
  pb : ∀ b ad, isP b = true → g2.bxa b = some ad → (i.gh g).bxa b = some ad
  st : ∀ c mt, labs.lookup c = some mt → st2 (.lab c) = .ep mt 0
  core : ∃ C2 a2, Rel C2 g2 st2 a2 w2

variable {gR g1 g2 : Gh} {d : Nat} {i : PI} {st1 st2 : St} {w2 : World} {nbl : List (Nat × Nat)}

theorem Bk.srep (B : Bk C g gR d i labs nbl g2 st2 w2) (e1 : GhExt gR g1) {e : Ty} {hid : Nat} {sp inn : List Nat} {xs : List e.den} {v : Value} (hh : st2 (.hnd hid) = .hr ⟨e, age0 sp, age0 inn, xs⟩) (hv : g2.hd hid = some v)
    (hl : ∀ c, c ∈ sp ++ inn → (labs.lookup c).isSome = true) {s n : List (Nat × Nat)} (hs : ∀ c, c ∈ sp.flatMap (trL d i) → ∃ n, (c, n) ∈ s) (hn : ∀ c, c ∈ inn.flatMap (trL d i) → ∃ m, (c, m) ∈ n) :
    SRep w2 (LB g1 s) (DRep w2 (LB g1 n) e) e.size xs v := by
  obtain ⟨C2, a2, h2⟩ := B.core
  obtain ⟨u, hu, k⟩ := h2.hnds hid _ hh
  rw [hv] at hu; cases hu
  have hal : Alive st2 ⟨e, age0 sp, age0 inn, xs⟩ := fun p hp => by
    have : p.1 ∈ sp ++ inn ∧ p.2 = 0 := by
      rcases List.mem_append.1 hp with hp | hp
      · exact ⟨List.mem_append_left _ (age0_mem hp).1, (age0_mem hp).2⟩
      · exact ⟨List.mem_append_right _ (age0_mem hp).1, (age0_mem hp).2⟩
    have hsm := hl p.1 this.1
    cases hlk : labs.lookup p.1 with
    | none => rw [hlk] at hsm; cases hsm
    | some mt => exact ⟨mt, by rw [this.2]; exact B.st _ _ hlk⟩
  have cov : ∀ (l : List Nat) (t : List (Nat × Nat)), (∀ c, c ∈ l → c ∈ sp ++ inn) → (∀ c, c ∈ l.flatMap (trL d i) → ∃ n, (c, n) ∈ t) → ∀ b, LB g2 (age0 l) b → LB g1 t b ∧ w2.heap[b]? = w2.heap[b]? := fun l t hsub ht b hb => by
    refine ⟨?_, rfl⟩
    obtain ⟨p, p1, p2⟩ := hb
    have hp := (age0_mem p1).1
    obtain ⟨l', k1, k2⟩ := B.lab b p.1 p2 (hl _ (hsub _ hp))
    obtain ⟨n', hn'⟩ := ht l' (List.mem_flatMap.2 ⟨p.1, hp, k1⟩)
    exact ⟨(l', n'), hn', e1.lb _ _ k2⟩
  exact (k hal).mono (cov sp s (fun c hc => by simp [hc]) hs) fun x cs hx => DRep.mono (cov inn n (fun c hc => by simp [hc]) hn) hx

theorem unretLeaf_run (B : Bk C g gR d i labs nbl g2 st2 w2) {jl : JL} {x : jl.ty.den} {k : Leaf → Acc α} {p : α × St} {v : Value} (h : Rel C g1 st1 a w2) (e1 : GhExt gR g1)
    (hin : ∀ k u, (k, u) ∈ (unLeaf jl x).1 → st2 k = u) (hv : LeafRep g2 (unLeaf jl x).2 v) (hr : (unretLeaf d i labs jl x k).run st1 = some p) :
    ∃ g' st' l, Rel C g' st' a w2 ∧ GhExt g1 g' ∧ LeafRep g' l v ∧ (k l).run st' = some p := by
  cases jl with
  | dead => exact ⟨g1, st1, .dead, h, GhExt.refl _, hv, by simpa [unretLeaf] using hr⟩
  | sc t =>
    refine ⟨g1, st1, scOf t x, h, GhExt.refl _, ?_, by simpa [unretLeaf] using hr⟩
    cases t <;> simp only [unLeaf, scOf] at hv ⊢ <;> exact hv
  | ref hid => simp [unretLeaf, Acc.run] at hr
  | sl e hid sp inn =>
    simp only [unretLeaf] at hr
    split at hr
    · rename_i hl
      have hl : ∀ c, c ∈ sp ++ inn → (labs.lookup c).isSome = true := fun c hc => List.all_eq_true.1 hl c hc
      obtain ⟨s, s1, s2, hr⟩ := agesOf_run hr
      obtain ⟨n, n1, n2, hr⟩ := agesOf_run hr
      have hst : st2 (.hnd hid) = .hr ⟨e, age0 sp, age0 inn, x⟩ := hin _ _ (by simp [unLeaf])
      have hrep := B.srep e1 hst hv.1 hl s1 n1
      have hlabs : ∀ p, p ∈ s ++ n → ∃ m k, st1 (.lab p.1) = .ep m k ∧ p.2 ≤ k := fun p hp => by
        rcases List.mem_append.1 hp with hp | hp
        · obtain ⟨m, hm⟩ := s2 p hp; exact ⟨m, p.2, hm, Nat.le_refl _⟩
        · obtain ⟨m, hm⟩ := n2 p hp; exact ⟨m, p.2, hm, Nat.le_refl _⟩
      split at hr
      · rename_i hp
        have hph := B.ph hid v hp hv.1
        split at hr
        · rename_i hnil
          refine ⟨g1, st1, .nil, h, GhExt.refl _, ?_, hr⟩
          have hph : (i.gh g).hd hid = some v := hph
          simp only [PI.gh, hnil] at hph
          cases hph; rfl
        · rename_i q hq
          have hgv : g.hd q = some v := by simpa [PI.gh, hq] using hph
          have hg1 : g1.hd q = some v := e1.hd _ _ (by rw [B.hd]; exact hgv)
          split at hr
          · exact ⟨g1, st1, .sl q, h, GhExt.refl _, ⟨hg1, hv.2⟩, hr⟩
          simp only [Acc.run] at hr
          exact ⟨g1, _, .sl q, h.setH (r := ⟨e, s, n, x⟩) hg1 hlabs fun _ => hrep, GhExt.refl _, ⟨hg1, hv.2⟩, hr⟩
        · simp [Acc.run] at hr
      · obtain ⟨k1, k2, k3⟩ := mkH_run (r := ⟨e, s, n, x⟩) (v := v) h hlabs (fun _ => hrep) hr
        exact ⟨_, _, .sl (64 * d + (hid - CAN)), k1, k2, ⟨by simp [Gh.addH], hv.2⟩, k3⟩
    · simp [Acc.run] at hr

theorem GhExt.trans {g g' g'' : Gh} (h : GhExt g g') (h' : GhExt g' g'') : GhExt g g'' := ⟨fun _ _ e => h'.hd _ _ (h.hd _ _ e), fun _ _ e => h'.bxa _ _ (h.bxa _ _ e), fun _ _ e => h'.lb _ _ (h.lb _ _ e)⟩

theorem unretLs_run (B : Bk C g gR d i labs nbl g2 st2 w2) : ∀ {js : List JL} {x : (Ty.of (js.map JL.ty)).den} {k : List Leaf → Acc α} {p : α × St} {vs : List Value} {g1 : Gh} {st1 : St}, Rel C g1 st1 a w2 → GhExt gR g1 →
    (∀ k u, (k, u) ∈ (unLs js x).1 → st2 k = u) → AllRep (LeafRep g2) (unLs js x).2 vs → (unretLs d i labs js x k).run st1 = some p →
    ∃ g' st' ls, Rel C g' st' a w2 ∧ GhExt g1 g' ∧ AllRep (LeafRep g') ls vs ∧ (k ls).run st' = some p := by
  intro js
  induction js with
  | nil => intro x k p vs g1 st1 h e1 hin hv hr; exact ⟨g1, st1, [], h, GhExt.refl _, hv, hr⟩
  | cons jl js ih =>
    intro x k p vs g1 st1 h e1 hin hv hr
    obtain ⟨v, r, rfl, hv1, hv2⟩ := hv
    simp only [unretLs] at hr
    obtain ⟨ga, sa, l, k1, k2, k3, hr⟩ := unretLeaf_run B h e1 (fun k u hm => hin k u (by simp [unLs, hm])) hv1 hr
    obtain ⟨gb, sb, ls, m1, m2, m3, hr⟩ := ih k1 (e1.trans k2) (fun k u hm => hin k u (by simp [unLs, hm])) hv2 hr
    exact ⟨gb, sb, l :: ls, m1, k2.trans m2, ⟨v, r, rfl, LeafRep.ext m2 k3, m3⟩, hr⟩

theorem unretV_run (B : Bk C g gR d i labs nbl g2 st2 w2) {jv : JV} {x : jv.ty.den} {k : SV → Acc α} {p : α × St} {v : Value} (h : Rel C g1 st1 a w2) (e1 : GhExt gR g1)
    (hin : ∀ k u, (k, u) ∈ (unV jv x).1 → st2 k = u) (hv : SVRep g2 (unV jv x).2 v) (hr : (unretV d i labs nbl jv x k).run st1 = some p) :
    ∃ g' st' c, Rel C g' st' a w2 ∧ GhExt g1 g' ∧ SVRep g' c v ∧ (k c).run st' = some p := by
  cases jv with
  | leaf jl =>
    simp only [unretV] at hr
    obtain ⟨g', st', l, k1, k2, k3, k4⟩ := unretLeaf_run B h e1 hin hv hr
    exact ⟨g', st', .val (.leaf l), k1, k2, k3, k4⟩
  | agg js =>
    obtain ⟨cs, rfl, hv⟩ := hv
    simp only [unretV] at hr
    obtain ⟨g', st', ls, k1, k2, k3, k4⟩ := unretLs_run B h e1 hin hv hr
    exact ⟨g', st', .val (.agg ls), k1, k2, ⟨cs, rfl, k3⟩, k4⟩
  | ptr b off =>
    simp only [unretV] at hr
    split at hr
    · rename_i q hq
      obtain ⟨ad, hb, rfl⟩ := hv
      obtain ⟨ad', k1, k2⟩ := B.nb _ _ hq
      rw [hb] at k1; cases k1
      exact ⟨g1, st1, .ptr q off, h, GhExt.refl _, ⟨ad, e1.bxa _ _ k2, rfl⟩, hr⟩
    · simp [Acc.run] at hr
  | fn _ _ => simp [unretV, Acc.run] at hr

theorem unretVs_run (B : Bk C g gR d i labs nbl g2 st2 w2) {us : Array Value} : ∀ {js : List (Nat × JV)} {x : (tysV js).den} {k : List SV → Acc α} {p : α × St} {g1 : Gh} {st1 : St}, Rel C g1 st1 a w2 → GhExt gR g1 →
    (∀ k u, (k, u) ∈ unVs js x → st2 k = u) → (∀ n v, st2 (.slot n) = .sv v → SVRep g2 v (us.getD n undef)) → (unretVs d i labs nbl js x k).run st1 = some p →
    ∃ g' st' cs, Rel C g' st' a w2 ∧ GhExt g1 g' ∧ AllRep (SVRep g') cs (js.map fun q => us.getD q.1 undef) ∧ (k cs).run st' = some p := by
  intro js
  induction js with
  | nil => intro x k p g1 st1 h e1 hin hv hr; exact ⟨g1, st1, [], h, GhExt.refl _, rfl, hr⟩
  | cons jv js ih =>
    intro x k p g1 st1 h e1 hin hv hr
    simp only [unretVs] at hr
    have h0 := hv jv.1 _ (hin (.slot jv.1) _ (by simp only [unVs]; exact List.mem_cons_self))
    obtain ⟨ga, sa, l, k1, k2, k3, hr⟩ := unretV_run B h e1 (fun k u hm => hin k u (by simp only [unVs, List.mem_cons, List.mem_append]; exact .inr (.inl hm))) h0 hr
    obtain ⟨gb, sb, ls, m1, m2, m3, hr⟩ := ih k1 (e1.trans k2) (fun k u hm => hin k u (by simp only [unVs, List.mem_cons, List.mem_append]; exact .inr (.inr hm))) hv hr
    exact ⟨gb, sb, l :: ls, m1, k2.trans m2, ⟨_, _, rfl, SVRep.ext m2 k3, m3⟩, hr⟩

/-- A variable's content told anew. -/
theorem Rel.setBox (h : Rel C g st a w) {b : Nat} {ls ls' : List Leaf} {ad : Addr} (hb : st (.box b) = .bx false ls) (ha : g.bxa b = some ad) (hl : ls'.length = ls.length) (hrep : BoxRep g w ad ls') :
    Rel C g (st.set (.box b) (.bx false ls')) a w := by
  have hal : ∀ q, Alive (st.set (.box b) (.bx false ls')) q ↔ Alive st q := fun q => by simp only [Alive, St.box_lab]
  exact { h with
    slots := fun n v' hn => by rw [St.box_slot] at hn; exact h.slots n v' hn
    hnds := fun q r' hq => by
      rw [St.box_hnd] at hq
      obtain ⟨u, h1, h2⟩ := h.hnds q r' hq
      exact ⟨u, h1, fun hx => h2 ((hal r').1 hx)⟩
    boxes := fun b' ro ls2 hq => by
      by_cases e : b' = b
      · subst e; rw [St.set_same] at hq; cases hq; exact ⟨ad, ha, hrep⟩
      · rw [St.set_ne _ _ (by simpa using e)] at hq; exact h.boxes b' ro ls2 hq
    hdom := fun q u hq => by rw [St.box_hnd]; exact h.hdom q u hq
    wins := fun q p lo sz hq => by rw [St.box_win] at hq; exact h.wins q p lo sz hq
    bdom := fun q u hq => by
      by_cases e : q = b
      · subst e; exact ⟨(h.bdom q u hq).1, false, _, St.set_same _ _ _⟩
      · rw [St.set_ne _ _ (by simpa using e)]; exact h.bdom q u hq
    hlabs := fun q r hq p hp => by rw [St.box_hnd] at hq; rw [St.box_lab]; exact h.hlabs q r hq p hp
    labs := fun b' l hq => by rw [St.box_lab]; exact h.labs b' l hq
    muts := fun b' l n hq hn => by rw [St.box_lab] at hn; exact h.muts b' l n hq hn
    rws := fun r ls2 ad' hq ha' => by
      by_cases e : r = b
      · subst e
        rw [St.set_same] at hq; cases hq
        obtain ⟨p1, p2, p3, p4⟩ := h.rws r ls ad' hb ha'
        exact ⟨p1, p2, p3, fun hlt j hj => p4 hlt j (by omega)⟩
      · rw [St.set_ne _ _ (by simpa using e)] at hq; exact h.rws r ls2 ad' hq ha' }

theorem unretBs_run (B : Bk C g gR d i labs nbl g2 st2 w2) : ∀ {bs : List (Nat × Bool × List JL)} {x : (tysB bs).den} {n : Acc α} {p : α × St} {g1 : Gh} {st1 : St}, Rel C g1 st1 a w2 → GhExt gR g1 →
    (∀ k u, (k, u) ∈ unBs bs x → st2 k = u) → (unretBs d i labs nbl bs x n).run st1 = some p → ∃ g' st', Rel C g' st' a w2 ∧ GhExt g1 g' ∧ n.run st' = some p := by
  intro bs
  induction bs with
  | nil => intro x n p g1 st1 h e1 hin hr; exact ⟨g1, st1, h, GhExt.refl _, hr⟩
  | cons b bs ih =>
    intro x n p g1 st1 h e1 hin hr
    have hin2 : ∀ k u, (k, u) ∈ unBs bs x.2 → st2 k = u := fun k u hm => hin k u (by simp only [unBs, List.mem_cons, List.mem_append]; exact .inr (.inr hm))
    simp only [unretBs] at hr
    split at hr
    · exact ih h e1 hin2 hr
    · split at hr
      · simp [Acc.run] at hr
      · rename_i q hq
        obtain ⟨C2, a2, h2⟩ := B.core
        have hst : st2 (.box b.1) = .bx b.2.1 (unLs b.2.2 x.1).2 := hin _ _ (by simp only [unBs]; exact List.mem_cons_self)
        obtain ⟨ad, ha, arr, ty, fr, q1, q2, q3⟩ := h2.boxes _ _ _ hst
        obtain ⟨us, arr', ty', fr', u0, u1, u2, u3⟩ := BoxRep.all (g := g2) ⟨arr, ty, fr, q1, q2, q3⟩
        obtain ⟨ga, sa, ls, k1, k2, k3, hr⟩ := unretLs_run B h e1 (fun k u hm => hin k u (by simp only [unBs, List.mem_cons, List.mem_append]; exact .inr (.inl hm))) u3 hr
        simp only [Acc.run] at hr
        split at hr
        · rename_i ls0 hb
          split at hr
          · rename_i hlen
            simp only [Acc.run] at hr
            have hgR : gR.bxa q = some ad := by
              split at hq
              · rename_i hp
                obtain ⟨q', f1, f2⟩ := PI.bxa_some (B.pb _ _ hp ha)
                rw [hq] at f1; cases f1
                exact B.bxa _ _ f2
              · obtain ⟨ad', f1, f2⟩ := B.nb _ _ hq
                rw [ha] at f1; cases f1; exact f2
            have hga : ga.bxa q = some ad := k2.bxa _ _ (e1.bxa _ _ hgR)
            have hlen2 : ls.length = (unLs b.2.2 x.1).2.length := by rw [← k3.length, u3.length]
            have h3 := k1.setBox hb hga hlen (BoxRep.mk u0 (by rw [hlen2]; exact u1) u2 k3)
            obtain ⟨gb, sb, m1, m2, hr⟩ := ih h3 (e1.trans k2) hin2 hr
            exact ⟨gb, sb, m1, k2.trans m2, hr⟩
          · simp [Acc.run] at hr
        · simp [Acc.run] at hr

/-- A variable that is there already. -/
theorem Rel.addBox (h : Rel C g st a w) {id : Nat} (hid : st (.box id) = .no) (hp : C.Pb id = false) {ls : List Leaf} {ad : Addr} (hsp : ad.spot = none) (hrep : BoxRep g w ad ls) (hlab : ∀ l, ¬ g.lb ad.block l)
    (hbx : ∀ r ad', g.bxa r = some ad' → ad'.block ≠ ad.block) (hcl : Cells w ad.block) (hge : C.w0.heap.size ≤ ad.block) : Rel C (g.addB id ad) (st.set (.box id) (.bx false ls)) a w := by
  have hg := h.no_bx hid
  have ex := Gh.addB_ext hg ad
  have hal : ∀ q, Alive (st.set (.box id) (.bx false ls)) q ↔ Alive st q := fun q => by simp only [Alive, St.box_lab]
  have new : ∀ u, (g.addB id ad).bxa id = some u → u = ad := fun u hu => by simp [Gh.addB] at hu; exact hu.symm
  exact { h with
    slots := fun n v' hn => by rw [St.box_slot] at hn; exact (h.slots n v' hn).ext ex
    hnds := fun q r' hq => by
      rw [St.box_hnd] at hq
      obtain ⟨u, h1, h2⟩ := h.hnds q r' hq
      exact ⟨u, h1, fun ha => h2 ((hal r').1 ha)⟩
    boxes := fun b ro ls' hq => by
      by_cases e : b = id
      · subst e; rw [St.set_same] at hq; cases hq
        exact ⟨ad, by simp [Gh.addB], hrep.ext ex⟩
      · rw [St.set_ne _ _ (by simpa using e)] at hq
        obtain ⟨ad, h1, h2⟩ := h.boxes b ro ls' hq
        exact ⟨ad, ex.bxa _ _ h1, h2.ext ex⟩
    hdom := fun q u hq => by rw [St.box_hnd]; exact h.hdom q u hq
    bdom := fun q u hq => by
      by_cases e : q = id
      · subst e
        have := new u hq; subst this
        exact ⟨hsp, false, ls, St.set_same _ _ _⟩
      · simp only [Gh.addB, if_neg e] at hq
        rw [St.set_ne _ _ (by simpa using e)]; exact h.bdom q u hq
    hlabs := fun q r hq p hp => by rw [St.box_hnd] at hq; rw [St.box_lab]; exact h.hlabs q r hq p hp
    labs := fun b l hq => by rw [St.box_lab]; exact h.labs b l hq
    muts := fun b l n hq hn => by
      rw [St.box_lab] at hn
      obtain ⟨p1, p2, p3, p4⟩ := h.muts b l n hq hn
      refine ⟨p1, fun r u ha => ?_, p3, p4⟩
      by_cases e : r = id
      · subst e
        have := new u ha; subst this
        intro e'; exact hlab l (e' ▸ hq)
      · simp only [Gh.addB, if_neg e] at ha; exact p2 r u ha
    rws := fun r ls' u hq ha => by
      by_cases e : r = id
      · subst e
        have := new u ha; subst this
        refine ⟨hlab, fun r' ad' hne ha' => ?_, hcl, fun hlt => by omega⟩
        simp only [Gh.addB, if_neg hne] at ha'
        exact hbx r' ad' ha'
      · rw [St.set_ne _ _ (by simpa using e)] at hq
        simp only [Gh.addB, if_neg e] at ha
        obtain ⟨p1, p2, p3, p4⟩ := h.rws r ls' u hq ha
        refine ⟨p1, fun r' ad' hne ha' => ?_, p3, p4⟩
        by_cases e' : r' = id
        · subst e'
          have := new ad' ha'; subst this
          exact fun e => hbx r u ha e.symm
        · simp only [Gh.addB, if_neg e'] at ha'; exact p2 r' ad' hne ha'
    wins := fun q p lo sz hq => by rw [St.box_win] at hq; exact (h.wins q p lo sz hq).ext ex
    nbs := fun q hq u hu => by
      by_cases e : q = id
      · subst e
        have := new u hu; subst this
        exact hge
      · simp only [Gh.addB, if_neg e] at hu; exact h.nbs q hq u hu
    pbs := fun q hq u hu => by
      by_cases e : q = id
      · subst e; rw [hp] at hq; cases hq
      · simp only [Gh.addB, if_neg e] at hu; exact h.pbs q hq u hu }

/-- What the callee's new variables are: their blocks lie apart from all that is told, and from one another. -/
theorem mkBs_run {C2 : Ctx} {a2 : Act} (h2 : Rel C2 g2 st2 a2 w2) (hge : C.w0.heap.size ≤ C2.w0.heap.size) (hP : ∀ b, C2.Pb b = isP b) {gR : Gh} (hlb : ∀ b l, gR.lb b l → b < C2.w0.heap.size ∨ ∃ c, g2.lb b c) :
    ∀ {fl : List (Nat × Nat × Nat)} {n : Acc α} {p : α × St} {g1 : Gh} {st1 : St} {dn : List Nat}, (∀ x, x ∈ fl → isP x.1 = false ∧ x.1 ∉ dn ∧ ∃ ls, st2 (.box x.1) = .bx false ls ∧ ls.length = x.2.2) → (fl.map (·.1)).Nodup →
    Rel C g1 st1 a w2 → g1.lb = gR.lb → (∀ r ad, g1.bxa r = some ad → ad.block < C2.w0.heap.size ∨ ∃ c, c ∈ dn ∧ g2.bxa c = some ad) → (mkBs fl n).run st1 = some p →
    ∃ g' st', Rel C g' st' a w2 ∧ GhExt g1 g' ∧ g'.hd = g1.hd ∧ g'.lb = g1.lb ∧ (∀ x, x ∈ fl → ∃ ad, g2.bxa x.1 = some ad ∧ g'.bxa x.2.1 = some ad) ∧ n.run st' = some p := by
  intro fl
  induction fl with
  | nil => intro n p g1 st1 dn _ _ h _ _ hr; exact ⟨g1, st1, h, GhExt.refl _, rfl, rfl, fun x hx => by simp at hx, hr⟩
  | cons x fl ih =>
    intro n p g1 st1 dn hx hnd h hl hb hr
    simp only [mkBs] at hr
    split at hr
    · rename_i hlt
      simp only [Acc.run] at hr
      split at hr
      · rename_i hno
        simp only [Acc.run] at hr
        obtain ⟨x1, x2, ls, x3, x4⟩ := hx x (by simp)
        obtain ⟨ad, ha, hrep⟩ := h2.boxes _ _ _ x3
        obtain ⟨r1, r2, r3, _⟩ := h2.rws _ _ _ x3 ha
        have hblk := h2.nbs _ (by rw [hP]; exact x1) ad ha
        have hrep' : BoxRep g1 w2 ad (List.replicate x.2.2 .dead) := by
          obtain ⟨arr, ty, fr, k1, k2, k3⟩ := hrep
          refine ⟨arr, ty, fr, k1, by rw [List.length_replicate, ← x4]; exact k2, fun j l hj => ?_⟩
          rw [List.getElem?_replicate] at hj
          split at hj
          · rename_i hjl
            cases hj
            obtain ⟨v, v1, v2⟩ := k3 j ls[j] (List.getElem?_eq_getElem (by omega))
            exact ⟨v, v1, LeafRep.one v2⟩
          · cases hj
        have h3 := h.addBox hno (C.own _ hlt).2.2 (h2.bdom _ _ ha).1 hrep'
          (fun l hl' => by
            rw [hl] at hl'
            rcases hlb _ _ hl' with e | ⟨c, e⟩
            · omega
            · exact r1 c e)
          (fun r ad' ha' e => by
            rcases hb r ad' ha' with e' | ⟨c, e1, e2⟩
            · omega
            · exact r2 c ad' (fun e3 => x2 (e3 ▸ e1)) e2 e) r3 (Nat.le_trans hge hblk)
        have hnd2 := List.nodup_cons.1 (by simpa using hnd : (x.1 :: fl.map (·.1)).Nodup)
        have hex := Gh.addB_ext (h.no_bx hno) ad
        obtain ⟨g', st', k1, k2, k3, k4, k5, k6⟩ := ih (dn := x.1 :: dn) (fun y hy => by
            obtain ⟨y1, y2, y3⟩ := hx y (by simp [hy])
            refine ⟨y1, fun e => ?_, y3⟩
            rcases List.mem_cons.1 e with e | e
            · exact hnd2.1 (List.mem_map.2 ⟨y, hy, e⟩)
            · exact y2 e) hnd2.2 h3 hl (fun r ad' ha' => by
            by_cases e : r = x.2.1
            · subst e
              have : ad' = ad := by simp [Gh.addB] at ha'; exact ha'.symm
              subst this
              exact .inr ⟨x.1, by simp, ha⟩
            · simp only [Gh.addB, if_neg e] at ha'
              rcases hb r ad' ha' with e' | ⟨c, e1, e2⟩
              · exact .inl e'
              · exact .inr ⟨c, by simp [e1], e2⟩) hr
        refine ⟨g', st', k1, hex.trans k2, k3, k4, fun y hy => ?_, k6⟩
        rcases List.mem_cons.1 hy with e | e
        · subst e; exact ⟨ad, ha, k2.bxa _ _ (by simp [Gh.addB])⟩
        · exact k5 y e
      · simp [Acc.run] at hr
    · simp [Acc.run] at hr

end Go.Proofs.YtnnnpppodblblaaGreat.Ev
/-
Calls by contract.
-/
namespace Go.Proofs.YtnnnpppodblblaaGreat.Ev
open Go

variable {P : Program} {C : Ctx} {g : Gh} {st st' : St} {a : Act} {w : World} {α : Type} {tab : Tab} {labs : List (Nat × Bool)} {cl : Bool}

structure Sig where
  f : Nat
  nres : Nat
  jin : J
  jout : J
  F : jin.ty.den → Option jout.ty.den

def noDupK (l : List Key) : Bool :=
  match l with
  | [] => true
  | x :: r => !(r.any fun y => y == x) && noDupK r

def Sig.okB (s : Sig) : Bool :=
  (s.jin.labs.all fun p => isP p.1) &&
  (s.jin.boxes.all fun b => isP b.1 && (b.2.1 || (s.jout.boxes.any fun b' => b'.1 == b.1 && b'.2.2.length == b.2.2.length))) &&
  ((s.jin.slots.map (·.1)) == List.range s.jin.slots.length) &&
  ((s.jout.slots.map (·.1)).take s.nres == List.range s.nres) &&
  (s.jout.labs.all fun p => isP p.1 || decide (CAN ≤ p.1)) &&
  (s.jout.boxes.all fun b => isP b.1 || !b.2.1) &&
  noDup ((s.jout.boxes.filter fun b => !isP b.1).map (·.1))

def Sig.Ok (s : Sig) : Prop := s.okB = true ∧ ∀ r, noDupK ((s.jout.kv r).map (·.1)) = true

def retV (n : Nat) (us : Array Value) : Value := if n = 1 then us.getD 0 undef else .tuple ((List.range n).map fun k => us.getD k undef).toArray

def Sig.Holds (P : Program) (s : Sig) : Prop :=
  (∃ fn, P.funcs[s.f]? = some fn ∧ (fn.name == "runtime.NumGoroutine") = false ∧ fn.body.isNone = false) ∧
  ∀ (g : Gh) (w : World) (args : Array Value) (x : s.jin.ty.den) (r : s.jout.ty.den), s.F x = some r → args.size = s.jin.slots.length → Core g (s.jin.st x) args w → (∀ b l, g.lb b l → isP l = true) → (∀ b ad, g.bxa b = some ad → isP b = true) →
    Calls P s.f args w fun
      | .returned v, w2 => ∃ g2 us, Rel (entryCtx g (s.jin.st x) w us.size) g2 (s.jout.st r) ⟨us, []⟩ w2 ∧ v = retV s.nres us
      | _, _ => False

def opnds (xs : List Operand) (k : List SV → Acc α) : Acc α :=
  match xs with
  | [] => k []
  | x :: r => opnd x fun v => opnds r fun vs => k (v :: vs)

def Sig.mus (s : Sig) (i : PI) : List Nat := (i.lm.filter fun p => s.jin.labs.lookup p.2 == some true).map (·.1)
def Sig.rwq (s : Sig) (i : PI) : List Nat := (s.jin.boxes.filter fun b => !b.2.1).filterMap fun b => i.bm.lookup b.1
def Sig.fl (s : Sig) (d : Nat) : NL := (s.jout.labs.filter fun p => !isP p.1).map fun p => (p.1, 64 * d + (p.1 - CAN), p.2)

/-- New variables that come back: theirs, ours, their size. -/
def Sig.nw (s : Sig) (d : Nat) : List (Nat × Nat × Nat) := (s.jout.boxes.filter fun b => !isP b.1).zipIdx.map fun q => (q.1.1, 5000000 + 64 * d + q.2, q.1.2.2.length)

def asCVs : List SV → Option (List CV)
  | [] => some []
  | .val c :: r => (asCVs r).map (c :: ·)
  | _ => none

def resV (n : Nat) (cs : List SV) (k : SV → Acc α) : Acc α := if n = 1 then (match cs with | c :: _ => k c | [] => .fail) else match asCVs (cs.take n) with | some l => k (.tup l) | none => .fail

def fnFit : List (Nat × JV) → List SV → Bool
  | (_, .fn f _) :: r, .fn f' _ :: t => f == f' && fnFit r t
  | _ :: r, _ :: t => fnFit r t
  | _, _ => true

def callB (sigs : List Sig) (nt : Nat) (dst : Option Nat) (d fn : Nat) (ss : List SV) : Acc Unit :=
  match sigs.find? fun s => s.f == fn && fnFit s.jin.slots ss with
  | none => .fail
  | some s => packJ true s.jin ss fun x i => .opt s.jout.ty (s.F x) fun r =>
    let nbl := (s.nw d).map fun p => (p.1, p.2.1)
    bumpN (s.mus i) (resetB (s.rwq i) (mkLs (s.fl d) (mkBs (s.nw d) (unretBs d i s.jout.labs nbl s.jout.boxes r.2 (unretVs d i s.jout.labs nbl s.jout.slots r.1 fun cs => resV s.nres cs fun v => put nt dst v)))))

def callAcc (sigs : List Sig) (nt : Nat) (dst : Option Nat) (d fn : Nat) (args : List Operand) : Acc Unit := opnds args fun ss => callB sigs nt dst d fn ss

def capSV : Option (Nat × Nat) → SV
  | none => .val (.leaf .dead)
  | some p => .ptr p.1 p.2

/-- A call of a function value. -/
def callFAcc (sigs : List Sig) (nt : Nat) (dst : Option Nat) (d t : Nat) (args : List Operand) : Acc Unit :=
  rdSlot t fun | .fn f caps => opnds args fun ss => callB sigs nt dst d f (ss ++ caps.map capSV) | _ => .fail

def capsAcc (xs : List Operand) (k : List (Option (Nat × Nat)) → Acc α) : Acc α :=
  match xs with
  | [] => k []
  | .const (.pointer none) :: r => capsAcc r fun cs => k (none :: cs)
  | x :: r => opnd x fun v => match v with | .ptr b off => capsAcc r fun cs => k (some (b, off) :: cs) | _ => .fail

def mkFnAcc (nt : Nat) (dst : Option Nat) (f : Nat) (caps : List Operand) : Acc Unit := capsAcc caps fun cs => put nt dst (.fn f cs)

theorem opnds_run (h : Rel C g st a w) : ∀ {xs : List Operand} {k : List SV → Acc α} {p : α × St}, (opnds xs k).run st = some p → ∃ ss, AllRep (SVRep g) ss (xs.map a.eval) ∧ (k ss).run st = some p := by
  intro xs
  induction xs with
  | nil => intro k p hr; exact ⟨[], rfl, hr⟩
  | cons x r ih =>
    intro k p hr
    simp only [opnds] at hr
    obtain ⟨v, hv, hr⟩ := opnd_run h hr
    obtain ⟨ss, hs, hr⟩ := ih hr
    exact ⟨v :: ss, ⟨_, _, rfl, hv, hs⟩, hr⟩

theorem noDupK_lookup : ∀ {l : List (Key × UV)}, noDupK (l.map (·.1)) = true → ∀ {k : Key} {u : UV}, (k, u) ∈ l → l.lookup k = some u := by
  intro l
  induction l with
  | nil => intro _ k u h; simp at h
  | cons e r ih =>
    intro hd k u hm
    obtain ⟨k0, u0⟩ := e
    simp only [List.map_cons, noDupK, Bool.and_eq_true, Bool.not_eq_true'] at hd
    rcases List.mem_cons.1 hm with e | hm2
    · cases e; simp
    · have hne : k ≠ k0 := fun e => by
        subst e
        have := hd.1
        rw [List.any_eq_false] at this
        exact this k (List.mem_map.2 ⟨(k, u), hm2, rfl⟩) (by simp)
      have : (k == k0) = false := by simpa using hne
      simp only [List.lookup, this]
      exact ih hd.2 hm2

theorem J.st_in {j : J} {d : j.ty.den} (hd : noDupK ((j.kv d).map (·.1)) = true) {k : Key} {u : UV} (h : (k, u) ∈ j.kv d) : j.st d k = u := by
  simp [J.st, noDupK_lookup hd h]

theorem unLs_length : ∀ {js : List JL} {x : (Ty.of (js.map JL.ty)).den}, (unLs js x).2.length = js.length := by
  intro js
  induction js with
  | nil => intro x; rfl
  | cons j js ih => intro x; simp [unLs, ih]

theorem mem_box' : ∀ {bs : List (Nat × Bool × List JL)} {x : (tysB bs).den} {b : Nat × Bool × List JL}, b ∈ bs → ∃ ls, (Key.box b.1, UV.bx b.2.1 ls) ∈ unBs bs x ∧ ls.length = b.2.2.length := by
  intro bs
  induction bs with
  | nil => intro x b h; simp at h
  | cons b' bs ih =>
    intro x b h
    rcases List.mem_cons.1 h with rfl | h
    · exact ⟨(unLs b.2.2 x.1).2, by simp [unBs], unLs_length⟩
    · obtain ⟨ls, h1, h2⟩ := ih (x := x.2) h; exact ⟨ls, by simp only [unBs, List.mem_cons, List.mem_append]; exact .inr (.inr h1), h2⟩

theorem BFacts.get {i : PI} : ∀ {bs : List (Nat × Bool × List JL)} {x : (tysB bs).den}, BFacts cl g st w labs i bs x → ∀ {b}, b ∈ bs → ∃ y, BFact cl g st w labs i b y := by
  intro bs
  induction bs with
  | nil => intro x _ b h; simp at h
  | cons b' bs ih =>
    intro x f b h
    rcases List.mem_cons.1 h with rfl | h
    · exact ⟨x.1, f.1⟩
    · exact ih f.2 h

theorem VFacts.length {i : PI} : ∀ {js : List (Nat × JV)} {x : (tysV js).den} {us : List Value}, VFacts cl g w labs i js x us → us.length = js.length := by
  intro js
  induction js with
  | nil => intro x us h; simp only [VFacts] at h; subst h; rfl
  | cons j js ih => intro x us h; obtain ⟨u, us', rfl, _, h2⟩ := h; simp [ih h2]

theorem slots_range {β : Type} {js : List (Nat × β)} {us : List Value} (h1 : js.map (·.1) = List.range js.length) (h2 : us.length = js.length) : us = js.map fun p => us.toArray.getD p.1 undef := by
  have : js.map (fun p => us.toArray.getD p.1 undef) = (js.map (·.1)).map fun n => us.toArray.getD n undef := by simp
  rw [this, h1, ← h2]
  apply List.ext_getElem?
  intro n
  by_cases hn : n < us.length
  · simp [hn, List.getElem?_eq_getElem hn, Array.getD]
  · simp [List.getElem?_eq_none (Nat.le_of_not_lt hn), Nat.le_of_not_lt hn]

theorem mem_labs {labs : List (Nat × Bool)} {c : Nat} {mt : Bool} (h : labs.lookup c = some mt) : (c, mt) ∈ labs := lookup_mem h

theorem AllRep.take {β : Type} {R : β → Value → Prop} {ds : List β} {cs : List Value} (h : AllRep R ds cs) (n : Nat) : AllRep R (ds.take n) (cs.take n) := by
  have := h.sub 0 n
  simpa using this

theorem nodup_of : ∀ {l : List Nat}, noDup l = true → l.Nodup := by
  intro l
  induction l with
  | nil => intro _; exact List.nodup_nil
  | cons x r ih =>
    intro h
    simp only [noDup, Bool.and_eq_true, Bool.not_eq_true'] at h
    exact List.nodup_cons.2 ⟨by have := h.1; simpa using this, ih h.2⟩

theorem capsAcc_run (h : Rel C g st a w) : ∀ {xs : List Operand} {k : List (Option (Nat × Nat)) → Acc α} {p : α × St}, (capsAcc xs k).run st = some p → ∃ cs, AllRep (CapRep g) cs (xs.map a.eval) ∧ (k cs).run st = some p := by
  intro xs
  induction xs with
  | nil => intro k p hr; exact ⟨[], rfl, hr⟩
  | cons x r ih =>
    intro k p hr
    unfold capsAcc at hr
    split at hr
    · rename_i e; cases e
    · rename_i e; cases e
      obtain ⟨cs, k1, hr⟩ := ih hr
      exact ⟨none :: cs, ⟨_, _, rfl, rfl, k1⟩, hr⟩
    · rename_i e; cases e
      obtain ⟨v, hv, hr⟩ := opnd_run h hr
      split at hr
      · rename_i b off
        obtain ⟨cs, k1, hr⟩ := ih hr
        obtain ⟨ad, h1, h2⟩ := hv
        exact ⟨some (b, off) :: cs, ⟨_, _, rfl, ⟨ad, h1, h2⟩, k1⟩, hr⟩
      · simp [Acc.run] at hr

theorem capSV_rep {cs : List (Option (Nat × Nat))} : ∀ {vs : List Value}, AllRep (CapRep g) cs vs → AllRep (SVRep g) (cs.map capSV) vs := by
  induction cs with
  | nil => intro vs h; exact h
  | cons c cs ih =>
    intro vs h
    obtain ⟨v, r, rfl, h1, h2⟩ := h
    refine ⟨v, r, rfl, ?_, ih h2⟩
    cases c with
    | none => simp only [CapRep] at h1; subst h1; rfl
    | some p => exact h1

theorem asCVs_rep : ∀ {cs : List SV} {l : List CV} {vs : List Value}, asCVs cs = some l → AllRep (SVRep g) cs vs → AllRep (CVRep g) l vs := by
  intro cs
  induction cs with
  | nil => intro l vs h hr; simp only [asCVs, Option.some.injEq] at h; subst h; exact hr
  | cons c cs ih =>
    intro l vs h hr
    obtain ⟨v, r, rfl, h1, h2⟩ := hr
    cases c <;> simp only [asCVs] at h <;> try (cases h; done)
    rename_i c
    cases hx : asCVs cs with
    | none => rw [hx] at h; cases h
    | some l' => rw [hx] at h; simp only [Option.map_some, Option.some.injEq] at h; subst h; exact ⟨v, r, rfl, h1, ih hx h2⟩

theorem mkFn_sim {o : Oper} {f : Nat} {caps : Array Operand} (ho : o.op = .makeFunc (.func f) #[] caps) {nt : Nat} (hn : nt = C.nt) : Sim P C o (mkFnAcc nt o.dst f caps.toList) := by
  intro g st a w st' h hr K Q hk
  unfold mkFnAcc at hr
  obtain ⟨cs, hcs, hr⟩ := capsAcc_run h hr
  refine wp_value (v := .func (.func f) #[] (caps.map a.eval)) (w' := w) ?_ (hk g _ _ (put_run h hn (show SVRep g (.fn f cs) _ from ⟨caps.map a.eval, rfl, by simpa using hcs⟩) hr))
  simp [execOp, ho, Instr.makeFunc]

theorem callB_wp {o : Oper} {fn : Nat} {sigs : List Sig} (hsig : ∀ s, s ∈ sigs → s.Ok ∧ s.Holds P) {nt d : Nat} (hn : nt = C.nt) (hc : CtxOk C) (h : Rel C g st a w) {ss : List SV} {vs : List Value} (hss : AllRep (SVRep g) ss vs)
    (hr : (callB sigs nt o.dst d fn ss).run st = some ((), st')) (hex : ∀ fd, P.funcs[fn]? = some fd → (fd.name == "runtime.NumGoroutine") = false → fd.body.isNone = false → (execOp a.eval o).run P w = .ok (.enter fn vs.toArray) w)
    {K : Act → World → Prop} {Q : Exit → Act → World → Prop} (hk : ∀ g' a' w', Rel C g' st' a' w' → K a' w') : o.wp P a w K Q := by
  unfold callB at hr
  split at hr
  · simp [Acc.run] at hr
  · rename_i s hs
    have hmem := List.mem_of_find?_eq_some hs
    have hf : s.f = fn := by have := List.find?_some hs; simp only [Bool.and_eq_true, beq_iff_eq] at this; exact this.1
    obtain ⟨⟨okb, nd⟩, ⟨fd, hfd, hname, hbody⟩, hcon⟩ := hsig s hmem
    simp only [Sig.okB, Bool.and_eq_true, List.all_eq_true, beq_iff_eq] at okb
    obtain ⟨⟨⟨⟨⟨⟨ok1, ok2⟩, ok3⟩, ok4⟩, ok5⟩, ok6⟩, ok7⟩ := okb
    obtain ⟨x, i, f, hr⟩ := packJ_run h hss hr
    simp only [Acc.run, Option.bind_eq_some_iff] at hr
    obtain ⟨r, hF, hr⟩ := hr
    have hu := slots_range ok3 f.vs.length
    have hcore := f.core h hu
    have hp : ∀ b l, (i.gh g).lb b l → isP l = true := fun b c hb => by
      obtain ⟨l, h1, _⟩ := hb
      obtain ⟨_, mt, _, _, h3, _⟩ := f.lm l c h1
      exact ok1 _ (mem_labs h3)
    have hokk := f.ok
    simp only [packOk, Bool.and_eq_true] at hokk
    have hpb : ∀ b ad, (i.gh g).bxa b = some ad → isP b = true := fun b ad hb => by
      obtain ⟨q, h1, _⟩ := PI.bxa_some hb
      obtain ⟨e, he, rfl⟩ := (apart_in hokk.1.1).1 b q h1
      exact (ok2 e he).1
    have hcalls := hcon (i.gh g) w _ x r hF (by simpa using f.vs.length) hcore hp hpb
    have hexec : (execOp a.eval o).run P w = .ok (.enter fn vs.toArray) w := hex fd (by rw [← hf]; exact hfd) hname hbody
    simp only [Oper.wp, hexec, Oper.upon_enter]
    rw [← hf]
    refine Calls.mono hcalls fun e w2 he => ?_
    cases e with
    | panicked _ => exact he.elim
    | outgrown => exact he.elim
    | returned v =>
      obtain ⟨g2, us, h2, hv⟩ := he
      obtain ⟨sa, b1, b2, hr⟩ := bumpN_run hr
      obtain ⟨sb, r1, r2, hr⟩ := resetB_run hr
      obtain ⟨sc, l1, l2, l3, l4, hr⟩ := mkLs_run hr
      have stin : ∀ k u, (k, u) ∈ s.jout.kv r → s.jout.st r k = u := fun k u hm => J.st_in (nd r) hm
      have flspec : ∀ c l mt, (c, l, mt) ∈ s.fl d → (c, mt) ∈ s.jout.labs ∧ isP c = false ∧ CAN ≤ c ∧ l = 64 * d + (c - CAN) := fun c l mt hm => by
        simp only [Sig.fl, List.mem_map, List.mem_filter] at hm
        obtain ⟨p, ⟨p1, p2⟩, e⟩ := hm
        simp only [Prod.mk.injEq] at e
        obtain ⟨rfl, rfl, rfl⟩ := e
        have p3 : isP p.1 = false := by simpa using p2
        have := ok5 p p1
        rw [p3] at this
        exact ⟨p1, p3, by simpa using this, rfl⟩
      have hret : RetSt st sc (s.mus i) (s.rwq i) (s.fl d) := {
        slot := fun n => by rw [l3 _ (by simp), r2 _ (by simp), b2 _ (by simp)]
        hnd := fun n => by rw [l3 _ (by simp), r2 _ (by simp), b2 _ (by simp)]
        win := fun n => by rw [l3 _ (by simp), r2 _ (by simp), b2 _ (by simp)]
        box := fun q hq => by rw [l3 _ (by simp), r2 _ (fun q' hq' e => by cases e; exact hq hq'), b2 _ (by simp)]
        boxr := fun q hq => by
          obtain ⟨ls, k1, k2⟩ := r1 q hq
          exact ⟨ls, by rw [← b2 (.box q) (by simp)]; exact k1, by rw [l3 _ (by simp)]; exact k2⟩
        mu := fun l hl => by
          obtain ⟨m, m', k1, k2, k3⟩ := b1 l hl
          have : sb (.lab l) = .ep true m' := by rw [r2 _ (by simp)]; exact k2
          exact ⟨m, m', k1, by rw [l2 _ (by rw [this]; simp)]; exact this, k3⟩
        new := fun c l mt hm => let ⟨k1, _, k3⟩ := l1 c l mt hm; ⟨k1, k3⟩
        lab := fun l hl hno => by
          have h1 : sa (.lab l) = st (.lab l) := b2 _ fun c hc e => by cases e; exact hl hc
          have h2 : sb (.lab l) = st (.lab l) := by rw [r2 _ (by simp), h1]
          rw [l2 _ (by rw [h2]; exact hno), h2] }
      have hrel := h.ret hc f hu h2 hret
        (fun l c e1 e2 => by
          simp only [Sig.mus, List.mem_map, List.mem_filter]
          exact ⟨(l, c), ⟨lookup_mem e1, by simp [e2]⟩, rfl⟩)
        (fun b js q e1 e2 => by
          simp only [Sig.rwq, List.mem_filterMap, List.mem_filter]
          exact ⟨(b, false, js), ⟨e1, rfl⟩, e2⟩)
        (fun q ls hq hb => by
          simp only [Sig.rwq, List.mem_filterMap, List.mem_filter] at hq
          obtain ⟨b, ⟨k1, k2⟩, k3⟩ := hq
          obtain ⟨y, q', ro, ls', ad, arr, ty, fr, us', m1, m2, m3, m4, m5, m6, m7, m8⟩ := f.bs.get k1
          rw [k3] at m1; cases m1
          rw [hb] at m2; cases m2
          have hok := ok2 b k1
          obtain ⟨hpb, hok⟩ := hok
          have hro : b.2.1 = false := by simpa using k2
          rw [hro] at hok
          simp only [Bool.false_or, List.any_eq_true, Bool.and_eq_true, beq_iff_eq] at hok
          obtain ⟨b', hb', e1, e2⟩ := hok
          obtain ⟨ls2, n1, n2⟩ := mem_box' (x := r.2) hb'
          refine ⟨b.1, b'.2.1, ls2, k3, hpb, ?_, by rw [n2, e2, m8.lens.1]⟩
          rw [← e1]
          exact stin _ _ (by simp only [J.kv, List.mem_append]; exact .inr (.inr n1)))
        (fun c l mt hm => by
          obtain ⟨k1, k2, _, _⟩ := flspec c l mt hm
          exact ⟨k2, fun e => ⟨0, by rw [← e]; exact stin _ _ (by simp only [J.kv, List.mem_append, List.mem_map]; exact .inl ⟨(c, mt), k1, rfl⟩)⟩⟩)
        (fun c c' l mt mt' hm hm' => by
          obtain ⟨_, _, k1, k2⟩ := flspec c l mt hm
          obtain ⟨_, _, k3, k4⟩ := flspec c' l mt' hm'
          exact ⟨by omega, l4 _ _ _ _ _ hm hm'⟩)
        (fun c l l' mt mt' hm hm' => by
          obtain ⟨_, _, _, k2⟩ := flspec c l mt hm
          obtain ⟨_, _, _, k4⟩ := flspec c l' mt' hm'
          rw [k2, k4])
      have hnw : ∀ x, x ∈ s.nw d → isP x.1 = false ∧ ∃ ls, s.jout.st r (.box x.1) = .bx false ls ∧ ls.length = x.2.2 := fun x hx => by
        simp only [Sig.nw, List.mem_map] at hx
        obtain ⟨q, hq, rfl⟩ := hx
        have hq2 := List.mem_zipIdx hq
        have hqm : q.1 ∈ s.jout.boxes.filter fun b => !isP b.1 := by
          have := (List.mem_zipIdx' hq).2
          rw [this]; exact List.getElem_mem _
        obtain ⟨m1, m2⟩ := List.mem_filter.1 hqm
        have m2 : isP q.1.1 = false := by simpa using m2
        obtain ⟨ls, n1, n2⟩ := mem_box' (x := r.2) m1
        have ro := ok6 q.1 m1
        rw [m2] at ro
        have ro : q.1.2.1 = false := by simpa using ro
        refine ⟨m2, ls, ?_, n2⟩
        rw [← ro]
        exact stin _ _ (by simp only [J.kv, List.mem_append]; exact .inr (.inr n1))
      have hnwd : ((s.nw d).map (·.1)).Nodup := by
        have e : (s.nw d).map (·.1) = (s.jout.boxes.filter fun b => !isP b.1).map (·.1) := by
          simp only [Sig.nw, List.map_map]
          have : ((fun x : Nat × Nat × Nat => x.1) ∘ fun q : (Nat × Bool × List JL) × Nat => (q.1.1, 5000000 + 64 * d + q.2, q.1.2.2.length)) = (fun b : Nat × Bool × List JL => b.1) ∘ Prod.fst := rfl
          rw [this, ← List.map_map, List.zipIdx_map_fst]
        rw [e]; exact nodup_of ok7
      have hgl : ∀ b l, (g.ret g2 (s.fl d)).lb b l → b < w.heap.size ∨ ∃ c, g2.lb b c := fun b l hb => by
        rcases hb with hb | ⟨c, mt, _, hb⟩
        · exact .inl (h.labs b l hb).2
        · exact .inr ⟨c, hb⟩
      obtain ⟨gR, sR, hrel, eR, hdR, hlR, hnR, hr⟩ := mkBs_run (C := C) (dn := []) h2 h.size (fun _ => rfl) hgl (fun x hx => ⟨(hnw x hx).1, by simp, (hnw x hx).2⟩) hnwd hrel rfl
        (fun r ad ha => by
          obtain ⟨_, ro, ls, hb⟩ := h.bdom r ad ha
          obtain ⟨ad', ha', hrep⟩ := h.boxes r ro ls hb
          have ha : g.bxa r = some ad := ha
          rw [ha] at ha'; cases ha'
          exact .inl hrep.lt) hr
      have B : Bk C g gR d i s.jout.labs ((s.nw d).map fun p => (p.1, p.2.1)) g2 (s.jout.st r) w2 := {
        hd := by rw [hdR]; rfl
        bxa := fun q ad ha => eR.bxa _ _ ha
        nb := fun c q hq => by
          have := lookup_mem hq
          simp only [List.mem_map] at this
          obtain ⟨x, hx, e⟩ := this
          cases e
          exact hnR x hx
        lab := fun b c hb hl => by
          rw [hlR]
          cases hlk : s.jout.labs.lookup c with
          | none => rw [hlk] at hl; cases hl
          | some mt =>
            by_cases hpc : isP c = true
            · obtain ⟨l, k1, k2⟩ := (h2.pls b c hb).1 hpc
              refine ⟨l, ?_, .inl k2⟩
              simp only [trL, hpc, if_true, List.mem_map, List.mem_filter]
              exact ⟨(l, c), ⟨lookup_mem k1, by simp⟩, rfl⟩
            · have hpc : isP c = false := by simpa using hpc
              refine ⟨64 * d + (c - CAN), by simp [trL, hpc], .inr ⟨c, mt, ?_, hb⟩⟩
              simp only [Sig.fl, List.mem_map, List.mem_filter]
              exact ⟨(c, mt), ⟨lookup_mem hlk, by simp [hpc]⟩, rfl⟩
        ph := fun q v hq hv => h2.phs q hq v hv
        pb := fun b ad hb ha => h2.pbs b hb ad ha
        st := fun c mt hl => J.st_lab hl
        core := ⟨_, _, h2⟩ }
      obtain ⟨ga, sd, ha, ea, hr⟩ := unretBs_run B hrel (GhExt.refl _) (fun k u hm => stin k u (by simp only [J.kv, List.mem_append]; exact .inr (.inr hm))) hr
      obtain ⟨gb, se, cs, hb, eb, hcs, hr⟩ := unretVs_run B (us := us) ha ea (fun k u hm => stin k u (by simp only [J.kv, List.mem_append]; exact .inr (.inl hm))) h2.slots hr
      have hrng : ((s.jout.slots.map fun q => us.getD q.1 undef).take s.nres) = (List.range s.nres).map fun k => us.getD k undef := by
        rw [← ok4, ← List.map_take, ← List.map_take, List.map_map]; rfl
      have htake := hcs.take s.nres
      rw [hrng] at htake
      subst hv
      unfold resV at hr
      split at hr
      · rename_i h1
        rw [h1] at htake
        split at hr
        · rename_i c cs'
          obtain ⟨v, rr, e, hv, _⟩ := htake
          simp only [List.range, List.range.loop, List.map_cons, List.map_nil, List.cons.injEq] at e
          refine hk gb _ _ (put_run hb hn ?_ hr)
          unfold retV
          rw [if_pos h1, e.1]; exact hv
        · simp [Acc.run] at hr
      · rename_i h1
        split at hr
        · rename_i l hl
          refine hk gb _ _ (put_run hb hn ?_ hr)
          unfold retV
          rw [if_neg h1]
          exact show SVRep gb (.tup l) _ from ⟨_, rfl, by simpa using asCVs_rep hl htake⟩
        · simp [Acc.run] at hr

theorem call_sim {o : Oper} {fn : Nat} {args : Array Operand} {ts : Array TypeId} (ho : o.op = .call ⟨.value (.func fn), args, ts⟩) {sigs : List Sig} (hsig : ∀ s, s ∈ sigs → s.Ok ∧ s.Holds P)
    {nt d : Nat} (hn : nt = C.nt) (hc : CtxOk C) : Sim P C o (callAcc sigs nt o.dst d fn args.toList) := by
  intro g st a w st' h hr K Q hk
  unfold callAcc at hr
  obtain ⟨ss, hss, hr⟩ := opnds_run h hr
  refine callB_wp hsig hn hc h hss hr (fun fd hfd hname hbody => ?_) hk
  have hname' : fd.name ≠ "runtime.NumGoroutine" := by simpa using hname
  have hbody' : fd.body ≠ none := fun e => by rw [e] at hbody; cases hbody
  have hargs : (args.toList.map a.eval).toArray = args.map a.eval := Array.ext' (by simp)
  rw [hargs]
  simp [hname', hbody', execOp, ho, resolve, Deferred.ofValue, invoke, callFunc, Act.eval, hfd, hname, hbody, program, Sem.run]

theorem callF_sim {o : Oper} {t : Nat} {args : Array Operand} {ts : Array TypeId} (ho : o.op = .call ⟨.value (.tmp t), args, ts⟩) {sigs : List Sig} (hsig : ∀ s, s ∈ sigs → s.Ok ∧ s.Holds P)
    {nt d : Nat} (hn : nt = C.nt) (hc : CtxOk C) : Sim P C o (callFAcc sigs nt o.dst d t args.toList) := by
  intro g st a w st' h hr K Q hk
  simp only [callFAcc, rdSlot, Acc.run] at hr
  split at hr
  · rename_i v hv
    split at hr
    · rename_i f caps
      obtain ⟨cs, hu, hcs⟩ := h.slots t _ hv
      obtain ⟨ss, hss, hr⟩ := opnds_run h hr
      refine callB_wp hsig hn hc h (hss.append (capSV_rep hcs)) hr (fun fd hfd hname hbody => ?_) hk
      have hname' : fd.name ≠ "runtime.NumGoroutine" := by simpa using hname
      have hbody' : fd.body ≠ none := fun e => by rw [e] at hbody; cases hbody
      have hargs : (args.toList.map a.eval ++ cs.toList).toArray = args.map a.eval ++ cs := Array.ext' (by simp)
      rw [hargs]
      simp [hname', hbody', execOp, ho, resolve, Deferred.ofValue, invoke, callFunc, eval_tmp, hu, hfd, hname, hbody, program, Sem.run]
    · simp [Acc.run] at hr
  · simp [Acc.run] at hr

end Go.Proofs.YtnnnpppodblblaaGreat.Ev
/-
One operation, with its guard.
-/
namespace Go.Proofs.YtnnnpppodblblaaGreat.Ev
open Go

variable {P : Program} {C : Ctx} {g : Gh} {st st' : St} {a : Act} {w : World} {α : Type}

/-- What an evaluation knows. -/
structure Env where
  tab : Tab
  eqs : List Nat
  sigs : List Sig
  nt : Nat

structure Env.Ok (P : Program) (E : Env) : Prop where
  tab : TabOk P E.tab
  eqs : ∀ t, t ∈ E.eqs → EqOk P t
  sigs : ∀ s, s ∈ E.sigs → s.Ok ∧ s.Holds P

def eqOp (E : Env) (dst : Option Nat) (neg : Bool) (t : Nat) (x y : Operand) : Acc Unit :=
  match E.tab.lookup t with
  | some (.st _ _) => eqAcc E.tab E.eqs E.nt dst neg t x y
  | _ => binAcc' E.tab E.nt dst (if neg then .neq else .eql) t x y

def convOp (E : Env) (dst : Option Nat) (s t : Nat) (x : Operand) : Acc Unit :=
  match E.tab.lookup s with
  | some (.sl _ _ _) => strOfAcc' E.tab E.nt dst s t x
  | _ => convAcc E.tab E.nt dst s t x

def biOp (E : Env) (dst : Option Nat) (b : Builtin) (xs : Array Operand) (ts : Array TypeId) : Acc Unit :=
  match b, xs, ts with
  | .len, ⟨[x]⟩, ⟨[t]⟩ => lenAcc E.tab E.nt dst t x
  | .append, ⟨[x, y]⟩, ⟨[t, u]⟩ => appendOp E.tab E.nt dst t u x y
  | .min, xs, _ => mmAcc E.nt dst false xs.toList
  | .max, xs, _ => mmAcc E.nt dst true xs.toList
  | .clear, ⟨[x]⟩, ⟨[t]⟩ => match dst with | none => clearAcc E.tab t x | some _ => .fail
  | _, _, _ => .fail

def mkFnOp (E : Env) (dst : Option Nat) (fn : Fn) (first caps : Array Operand) : Acc Unit :=
  match fn, first with
  | .func f, ⟨[]⟩ => mkFnAcc E.nt dst f caps.toList
  | _, _ => .fail

/-- d: what new names are made of. -/
def opAcc (E : Env) (d : Nat) (dst : Option Nat) (op : Op) : Acc Unit :=
  match op with
  | .move x => moveAcc E.nt dst x
  | .assign x => moveAcc E.nt dst x
  | .pick c x y => pickAcc E.nt dst c x y
  | .alloc t => allocAcc' E.tab E.nt dst t
  | .box _ x => boxAcc E.nt dst x
  | .build t ps => buildAcc E.tab E.nt dst t ps.toList
  | .buildSlice t len ps => buildSliceAcc E.tab E.nt dst t len ps.toList
  | .load t x => loadAcc' E.tab E.nt dst t x
  | .store t x y => match dst with | none => storeAcc' E.tab E.nt t x y | some _ => .fail
  | .nilCheck x => nilAcc E.nt dst x
  | .binOp .eql t x y _ => eqOp E dst false t x y
  | .binOp .neq t x y _ => eqOp E dst true t x y
  | .binOp op t x y _ => binAcc' E.tab E.nt dst op t x y
  | .unOp op _ x => unAcc' E.nt dst op x
  | .convert s t x => convOp E dst s t x
  | .makeSlice t l c => makeAcc E.tab E.nt dst t l c
  | .slice t x lo hi none => sliceAcc E.tab E.nt dst t x lo hi
  | .fieldAddr t x f => fieldAddrAcc E.tab E.nt dst t x f
  | .field t x f => fieldAcc E.tab E.nt dst t x f
  | .indexAddr t x i => indexAddrAcc E.tab E.nt dst t x i
  | .index t x i => indexAcc E.tab E.nt dst t x i
  | .extract x i => extractAcc E.nt dst x i
  | .call ⟨.builtin b, xs, ts⟩ => biOp E dst b xs ts
  | .call ⟨.value (.func fn), xs, _⟩ => callAcc E.sigs E.nt dst d fn xs.toList
  | .call ⟨.value (.tmp t), xs, _⟩ => callFAcc E.sigs E.nt dst d t xs.toList
  | .makeFunc fn first caps => mkFnOp E dst fn first caps
  | _ => .fail

theorem fail_sim {o : Oper} : Sim P C o .fail := by
  intro g st a w st' _ hr; simp [Acc.run] at hr

theorem eqOp_sim {E : Env} (hE : E.Ok P) (hn : E.nt = C.nt) {o : Oper} {neg : Bool} {t t' : Nat} {x y : Operand} (ho : o.op = .binOp (if neg then .neq else .eql) t x y t') : Sim P C o (eqOp E o.dst neg t x y) := by
  unfold eqOp
  split
  · exact eq_sim ho hE.tab hE.eqs hn
  · exact bin_sim ho hE.tab hn

theorem op_sim {E : Env} (hE : E.Ok P) (hn : E.nt = C.nt) (hc : CtxOk C) (o : Oper) (d : Nat) : Sim P C o (opAcc E d o.dst o.op) := by
  cases ho : o.op <;> simp only [opAcc] <;> try exact fail_sim
  case move x => exact move_sim (.inl ho) hn
  case assign x => exact move_sim (.inr ho) hn
  case pick c x y => exact pick_sim ho hn
  case alloc t => exact alloc_sim ho hE.tab hn
  case box t x => exact box_sim ho hn
  case build t ps => exact build_sim ho hE.tab hn
  case buildSlice t len ps => exact buildSlice_sim ho hE.tab hn
  case load t x => exact load_sim ho hE.tab hn
  case store t x y =>
    cases hd : o.dst with
    | none => exact store_sim ho hd hE.tab
    | some _ => exact fail_sim
  case nilCheck x => exact nil_sim ho hn
  case binOp op t x y t' =>
    cases op <;> first | exact eqOp_sim (neg := false) hE hn ho | exact eqOp_sim (neg := true) hE hn ho | exact bin_sim ho hE.tab hn
  case unOp op t x => exact un_sim ho hn
  case convert s t x =>
    unfold convOp
    split
    · exact strOf_sim ho hE.tab hn
    · exact conv_sim ho hE.tab hn
  case makeSlice t l c => exact make_sim ho hE.tab hn
  case slice t x lo hi mx =>
    cases mx with
    | none => exact slice_sim ho hE.tab hn
    | some _ => exact fail_sim
  case fieldAddr t x f => exact fieldAddr_sim ho hE.tab hn
  case field t x f => exact field_sim ho hE.tab hn
  case indexAddr t x i => exact indexAddr_sim ho hE.tab hn
  case index t x i => exact index_sim ho hE.tab hn
  case extract x i => exact extract_sim ho hn
  case makeFunc fn first caps =>
    unfold mkFnOp
    split
    · exact mkFn_sim ho hn
    · exact fail_sim
  case call c =>
    obtain ⟨cal, xs, ts⟩ := c
    cases cal with
    | builtin b =>
      simp only [opAcc]
      unfold biOp
      split
      · exact len_sim ho rfl hE.tab hn
      · exact append_sim ho hE.tab hn
      · exact mm_sim (mx := false) ho hn
      · exact mm_sim (mx := true) ho hn
      · split
        · rename_i hd; exact clear_sim ho hd hE.tab
        · exact fail_sim
      · exact fail_sim
    | invoke _ _ => simp only [opAcc]; exact fail_sim
    | value f =>
      cases f with
      | tmp _ => simp only [opAcc]; exact callF_sim ho hE.sigs hn hc
      | const v => simp only [opAcc]; exact fail_sim
      | global v => simp only [opAcc]; exact fail_sim
      | func fn => simp only [opAcc]; exact call_sim ho hE.sigs hn hc

end Go.Proofs.YtnnnpppodblblaaGreat.Ev
/-
Operations with guards, in the text's order.
-/
namespace Go.Proofs.YtnnnpppodblblaaGreat.Ev
open Go

variable {P : Program} {C : Ctx} {g : Gh} {st st' : St} {a : Act} {w : World} {α : Type}

def Acc.seq : Acc Unit → Acc Unit → Acc Unit
  | .done _, n => n
  | .fail, _ => .fail
  | .rd k f, n => .rd k fun v => (f v).seq n
  | .wr k v m, n => .wr k v (m.seq n)
  | .br b t e, n => .br b (t.seq n) (e.seq n)
  | .opt l o f, n => .opt l o fun x => (f x).seq n

theorem Acc.seq_run (x y : Acc Unit) : ∀ (st : St), (x.seq y).run st = (x.run st).bind fun p => y.run p.2 := by
  induction x with
  | done _ => intro st; rfl
  | fail => intro st; rfl
  | rd k f ih => intro st; exact ih (st k) st
  | wr k v n ih => intro st; exact ih (st.set k v)
  | br b t e iht ihe => intro st; cases b <;> simp only [seq, run, cond_true, cond_false] <;> first | exact ihe st | exact iht st
  | opt l o f ih => intro st; cases o with
    | none => rfl
    | some x => exact ih x st

/-- A told answer splits the way. -/
def splitB (t : Nat) : Acc Unit := .rd (.slot t) fun
  | .sv (.val (.leaf (.sc (.bool b)))) => .br b (.wr (.slot t) (.sv (.val (.leaf (.sc (.bool true))))) (.done ())) (.wr (.slot t) (.sv (.val (.leaf (.sc (.bool false))))) (.done ()))
  | _ => .done ()

def isSrc (ops : Array Oper) (i : Nat) : Bool := ops.toList.any fun o => match o.guard with | some (j, _) => j == i | none => false

def bodyG (E : Env) (ops : Array Oper) (d i : Nat) (o : Oper) : Acc Unit :=
  if isSrc ops i = true then match o.dst with | some t => (opAcc E d o.dst o.op).seq (splitB t) | none => opAcc E d o.dst o.op else opAcc E d o.dst o.op

def opG (E : Env) (ops : Array Oper) (d i : Nat) (o : Oper) : Acc Unit :=
  match o.guard with
  | none => bodyG E ops d i o
  | some (j, want) =>
    match (ops[j]?).bind (·.dst) with
    | none => put E.nt o.dst (.tup [])
    | some t => .rd (.slot t) fun
      | .sv (.val (.leaf (.sc (.bool b)))) => .br (b == want) (bodyG E ops d i o) (put E.nt o.dst (.tup []))
      | .sv (.tup []) => put E.nt o.dst (.tup [])
      | _ => .fail

theorem Rel.reslot (h : Rel C g st a w) {t : Nat} {v : SV} (hv : SVRep g v (a.tmps.getD t undef)) : Rel C g (st.set (.slot t) (.sv v)) a w := by
  have hal : ∀ q, Alive (st.set (.slot t) (.sv v)) q ↔ Alive st q := fun q => by simp only [Alive, St.slot_lab]
  exact { h with
    slots := fun n v' hn => by
      by_cases e : n = t
      · subst e; rw [St.set_same] at hn; cases hn; exact hv
      · rw [St.set_ne _ _ (by simpa using e)] at hn; exact h.slots n v' hn
    hnds := fun q r' hq => by
      rw [St.slot_hnd] at hq
      obtain ⟨u, h1, h2⟩ := h.hnds q r' hq
      exact ⟨u, h1, fun hx => h2 ((hal r').1 hx)⟩
    boxes := fun b ro ls hq => by rw [St.slot_box] at hq; exact h.boxes b ro ls hq
    hdom := fun q u hq => by rw [St.slot_hnd]; exact h.hdom q u hq
    bdom := fun q u hq => by rw [St.slot_box]; exact h.bdom q u hq
    hlabs := fun q r hq p hp => by rw [St.slot_hnd] at hq; rw [St.slot_lab]; exact h.hlabs q r hq p hp
    labs := fun b l hq => by rw [St.slot_lab]; exact h.labs b l hq
    muts := fun b l n hq hn => by rw [St.slot_lab] at hn; exact h.muts b l n hq hn
    wins := fun q p lo sz hq => by rw [St.slot_win] at hq; exact h.wins q p lo sz hq
    rws := fun r ls ad hq ha => by rw [St.slot_box] at hq; exact h.rws r ls ad hq ha }

theorem splitB_run {t : Nat} (h : Rel C g st a w) (hr : (splitB t).run st = some ((), st')) : Rel C g st' a w := by
  simp only [splitB, Acc.run] at hr
  split at hr
  · rename_i b hb
    have hs := h.slots t _ hb
    cases b <;> simp only [Acc.run, cond_true, cond_false, Option.some.injEq, Prod.mk.injEq, true_and] at hr <;> subst hr <;> exact h.reslot hs
  · simp only [Acc.run, Option.some.injEq, Prod.mk.injEq, true_and] at hr
    subst hr; exact h

theorem bodyG_sim {E : Env} (hE : E.Ok P) (hn : E.nt = C.nt) (hc : CtxOk C) (ops : Array Oper) (d i : Nat) (o : Oper) : Sim P C o (bodyG E ops d i o) := by
  unfold bodyG
  split
  · split
    · rename_i t ht
      intro g st a w st' h hr K Q hk
      rw [Acc.seq_run, Option.bind_eq_some_iff] at hr
      obtain ⟨⟨u, s1⟩, h1, h2⟩ := hr
      exact op_sim hE hn hc o d g st a w s1 h h1 K Q fun g' a' w' hrel => hk g' a' w' (splitB_run hrel h2)
    · exact op_sim hE hn hc o d
  · exact op_sim hE hn hc o d

theorem getD_of_get? {tmps : Array Value} {t : Nat} {b : Bool} (h : tmps.getD t undef = .bool b) : tmps[t]? = some (.bool b) := by
  cases ht : tmps[t]? with
  | none => simp [ht, undef] at h
  | some v => simp [ht] at h; rw [h]

/-- One operation of a region, in whatever order. -/
theorem opG_sim {E : Env} (hE : E.Ok P) (hn : E.nt = C.nt) (hc : CtxOk C) {ops : Array Oper} {d i : Nat} {o : Oper} (ho : ops[i]? = some o) (h : Rel C g st a w) (hr : (opG E ops d i o).run st = some ((), st'))
    {K : Act → World → Prop} {Q : Exit → Act → World → Prop} (hk : ∀ g' a' w', Rel C g' st' a' w' → K a' w') : wpOp P ops Q i K a w := by
  unfold wpOp
  simp only [ho]
  have skip : ∀ {u : Value}, (put E.nt o.dst (.tup [])).run st = some ((), st') → u = undef → K (a.put o.dst u) w := fun hr hu => by
    subst hu
    exact hk g _ _ (put_run (v := .tup []) (u := undef) h hn ⟨#[], rfl, rfl⟩ hr)
  unfold opG at hr
  split at hr
  · rename_i hg
    have hw : Region.wanted o (yielded ops a.tmps) = true := by simp [Region.wanted, hg]
    rw [hw]
    exact .inl (bodyG_sim hE hn hc ops d i o g st a w st' h hr K Q hk)
  · rename_i j want hg
    split at hr
    · rename_i hnone
      have hy : yielded ops a.tmps j = none := by simp [yielded, hnone]
      have hw : Region.wanted o (yielded ops a.tmps) = false := by simp [Region.wanted, hg, hy]
      rw [hw]
      exact skip hr rfl
    · rename_i t ht
      simp only [Acc.run] at hr
      split at hr
      · rename_i b hb
        have hs : a.tmps.getD t undef = .bool b := h.slots t _ hb
        have hy : yielded ops a.tmps j = some b := by simp only [yielded, ht, Option.bind_some, getD_of_get? hs]
        have hw : Region.wanted o (yielded ops a.tmps) = (b == want) := by simp [Region.wanted, hg, hy]
        rw [hw]
        simp only [Acc.run] at hr
        cases hbw : (b == want) with
        | true =>
          rw [hbw] at hr; simp only [cond_true] at hr
          exact .inl (bodyG_sim hE hn hc ops d i o g st a w st' h hr K Q hk)
        | false =>
          rw [hbw] at hr; simp only [cond_false] at hr
          exact skip hr rfl
      · rename_i hb
        obtain ⟨vs, hs, hvs⟩ := h.slots t _ hb
        have hy : yielded ops a.tmps j = none := by
          cases htt : a.tmps[t]? with
          | none => simp [yielded, ht, htt]
          | some v =>
            have : v = .tuple vs := by simpa [htt] using hs
            subst this
            simp [yielded, ht, htt]
        have hw : Region.wanted o (yielded ops a.tmps) = false := by simp [Region.wanted, hg, hy]
        rw [hw]
        exact skip hr rfl
      · simp [Acc.run] at hr

/-- What new names are made of: the place of the result, or else of the operation. -/
def baseOf (rid i : Nat) (o : Oper) : Nat := match o.dst with | some d => d | none => 2000 + 200 * rid + i

def regT {ρ : Type} (E : Env) (ops : Array Oper) (rid : Nat) : List Nat → (St → Option ρ) → St → Option ρ
  | [], k, st => k st
  | i :: r, k, st =>
    match ops[i]? with
    | none => none
    | some o => (opG E ops (baseOf rid i o) i o).go (fun _ st' => regT E ops rid r k st') st

theorem regT_sound {ρ : Type} {E : Env} (hE : E.Ok P) (hn : E.nt = C.nt) (hc : CtxOk C) {ops : Array Oper} {rid : Nat} {Q : Exit → Act → World → Prop} {k : St → Option ρ} {r : ρ}
    (hk : ∀ g' st' a' w', Rel C g' st' a' w' → k st' = some r → Q .normal a' w') :
    ∀ {l : List Nat} {g : Gh} {st : St} {a : Act} {w : World}, Rel C g st a w → regT E ops rid l k st = some r → wpOps P ops Q l a w := by
  intro l
  induction l with
  | nil => intro g st a w h hr; exact hk g st a w h hr
  | cons i l ih =>
    intro g st a w h hr
    rw [wpOps_cons]
    simp only [regT] at hr
    split at hr
    · cases hr
    · rename_i o ho
      rw [Acc.go_eq, Option.bind_eq_some_iff] at hr
      obtain ⟨⟨u, s1⟩, h1, h2⟩ := hr
      exact opG_sim hE hn hc ho h h1 fun g' a' w' hrel => ih hrel h2

end Go.Proofs.YtnnnpppodblblaaGreat.Ev
/-
Operations in whatever order the region allows.
-/
namespace Go.Proofs.YtnnnpppodblblaaGreat.Ev
open Go

variable {P : Program} {C : Ctx} {g : Gh} {st st' : St} {a : Act} {w : World} {α : Type}

abbrev FP := List Key × List Key

def ancOf (acc : List Nat) (o : Oper) : Nat := o.after.toList.foldl (fun m e => if Region.binds .any e = true then (m ||| 1 <<< e.on) ||| acc.getD e.on 0 else m) 0

def masks : List Oper → List Nat → List Nat
  | [], acc => acc
  | o :: r, acc => masks r (acc ++ [ancOf acc o])

def Closed (ops : Array Oper) (S : Nat → Prop) : Prop := ∀ i o, S i → ops[i]? = some o → ∀ e, e ∈ o.after.toList → Region.binds .any e = true → S e.on

def AncOk (ops : Array Oper) (i m : Nat) : Prop := ∀ S, Closed ops S → ∀ o, ops[i]? = some o → (∀ e, e ∈ o.after.toList → Region.binds .any e = true → S e.on) → ∀ j, m.testBit j = true → S j

theorem ancOf_ok {ops : Array Oper} {acc : List Nat} (ha : ∀ i m, acc[i]? = some m → AncOk ops i m) (hops : ∀ i, i < acc.length → ∃ o, ops[i]? = some o) {i : Nat} {o : Oper} (ho : ops[i]? = some o) : AncOk ops i (ancOf acc o) := by
  intro S hS o' ho' hp j hj
  rw [ho] at ho'; cases ho'
  unfold ancOf at hj
  have key : ∀ (l : List Edge) (m : Nat), (∀ e, e ∈ l → Region.binds .any e = true → S e.on) → (∀ j, m.testBit j = true → S j) →
      ∀ j, (l.foldl (fun m e => if Region.binds .any e = true then (m ||| 1 <<< e.on) ||| acc.getD e.on 0 else m) m).testBit j = true → S j := by
    intro l
    induction l with
    | nil => intro m _ hm j hj; exact hm j hj
    | cons e l ih =>
      intro m hl hm j hj
      simp only [List.foldl_cons] at hj
      refine ih _ (fun e' he' => hl e' (by simp [he'])) (fun j' hj' => ?_) j hj
      split at hj'
      · rename_i hb
        have hon := hl e (by simp) hb
        rw [Nat.testBit_or, Nat.testBit_or, Bool.or_eq_true, Bool.or_eq_true] at hj'
        rcases hj' with (h1 | h1) | h1
        · exact hm j' h1
        · rw [Nat.one_shiftLeft, Nat.testBit_two_pow] at h1
          have : e.on = j' := by simpa using h1
          rw [← this]; exact hon
        · cases hk : acc[e.on]? with
          | none => simp [hk] at h1
          | some m' =>
            have h1 : m'.testBit j' = true := by simpa [hk] using h1
            obtain ⟨o2, ho2⟩ := hops e.on (List.getElem?_eq_some_iff.1 hk).1
            exact ha e.on m' hk S hS o2 ho2 (fun e2 he2 hb2 => hS e.on o2 hon ho2 e2 he2 hb2) j' h1
      · exact hm j' hj'
  exact key _ 0 hp (fun j hj => by simp at hj) j hj

theorem masks_ok {ops : Array Oper} : ∀ {l : List Oper} {acc : List Nat}, (∀ k o, l[k]? = some o → ops[acc.length + k]? = some o) → (∀ i, i < acc.length → ∃ o, ops[i]? = some o) → (∀ i m, acc[i]? = some m → AncOk ops i m) →
    ∀ i m, (masks l acc)[i]? = some m → AncOk ops i m := by
  intro l
  induction l with
  | nil => intro acc _ _ ha i m h; exact ha i m h
  | cons o l ih =>
    intro acc hl hops ha i m h
    have ho : ops[acc.length]? = some o := hl 0 o rfl
    refine ih (acc := acc ++ [ancOf acc o]) (fun k o' hk => ?_) (fun i hi => ?_) (fun i m hi => ?_) i m h
    · have := hl (k + 1) o' (by simpa using hk)
      simpa [Nat.add_assoc, Nat.add_comm 1 k] using this
    · by_cases e : i < acc.length
      · exact hops i e
      · have : i = acc.length := by simp at hi; omega
        subst this; exact ⟨o, ho⟩
    · by_cases e : i < acc.length
      · rw [List.getElem?_append_left e] at hi; exact ha i m hi
      · have hlt := (List.getElem?_eq_some_iff.1 hi).1
        have : i = acc.length := by simp at hlt; omega
        subst this
        simp at hi; subst hi
        exact ancOf_ok ha hops ho

def apartK (x y : List Key) : Bool := x.all fun k => y.all fun q => !(k == q)
def apartF (x y : FP) : Bool := apartK x.2 y.1 && apartK x.2 y.2 && apartK x.1 y.2

def indepOk (ops : Array Oper) (fs : List FP) : Bool :=
  let ms := masks ops.toList []
  ((List.range ops.size).all fun i => ((ops[i]?).map fun o => o.after.all fun e => !Region.binds .any e || decide (e.on < i)).getD false) &&
  (List.range ops.size).all fun j => (List.range j).all fun i => (ms.getD j 0).testBit i || apartF (fs.getD i ([], [])) (fs.getD j ([], []))

def regDGo {ρ : Type} (E : Env) (ops : Array Oper) (rid : Nat) : Nat → Nat → List FP → (List FP → St → Option ρ) → St → Option ρ
  | 0, _, fs, k, st => k fs st
  | cnt + 1, i, fs, k, st =>
    match ops[i]? with
    | none => none
    | some o => (opG E ops (baseOf rid i o) i o).runK (fun _ R W st' => regDGo E ops rid cnt (i + 1) (fs ++ [(R, W)]) k st') [] [] st

def regD {ρ : Type} (E : Env) (ops : Array Oper) (rid : Nat) (k : St → Option ρ) (st : St) : Option ρ :=
  regDGo E ops rid ops.size 0 [] (fun fs st' => if indepOk ops fs = true then k st' else none) st

theorem regDGo_tr {ρ : Type} {E : Env} {ops : Array Oper} {rid : Nat} {k : List FP → St → Option ρ} {r : ρ} : ∀ {cnt i : Nat} {fs : List FP} {st : St}, fs.length = i → regDGo E ops rid cnt i fs k st = some r →
    ∃ (σ : Nat → St) (fs' : List FP), σ i = st ∧ (∀ m, i ≤ m → m < i + cnt → ∃ o, ops[m]? = some o ∧ (opG E ops (baseOf rid m o) m o).run (σ m) = some ((), σ (m + 1)) ∧ fs'[m]? = some ((opG E ops (baseOf rid m o) m o).fp (σ m) [] [])) ∧
      (∀ m, m < i → fs'[m]? = fs[m]?) ∧ k fs' (σ (i + cnt)) = some r := by
  intro cnt
  induction cnt with
  | zero => intro i fs st hl h; exact ⟨fun _ => st, fs, rfl, fun m h1 h2 => by omega, fun _ _ => rfl, h⟩
  | succ cnt ih =>
    intro i fs st hl h
    simp only [regDGo] at h
    split at h
    · cases h
    · rename_i o ho
      rw [Acc.runK_eq, Option.bind_eq_some_iff] at h
      obtain ⟨⟨u, s1⟩, h1, h2⟩ := h
      obtain ⟨σ, fs', k1, k2, k3, k4⟩ := ih (by simp [hl]) h2
      refine ⟨fun m => if m ≤ i then st else σ m, fs', by simp, fun m m1 m2 => ?_, fun m hm => ?_, ?_⟩
      · by_cases e : m = i
        · subst e
          refine ⟨o, ho, ?_, ?_⟩
          · simp only [Nat.le_refl, if_true, show ¬ (m + 1 ≤ m) by omega, if_false, k1]; exact h1
          · rw [k3 m (by omega)]; simp [← hl]
        · obtain ⟨o', q1, q2, q3⟩ := k2 m (by omega) (by omega)
          refine ⟨o', q1, ?_, ?_⟩
          · simp only [show ¬ (m ≤ i) by omega, show ¬ (m + 1 ≤ i) by omega, if_false]; exact q2
          · simp only [show ¬ (m ≤ i) by omega, if_false]; exact q3
      · rw [k3 m (by omega), List.getElem?_append_left (by omega)]
      · simp only [show ¬ (i + (cnt + 1) ≤ i) by omega, if_false]
        rw [show i + (cnt + 1) = i + 1 + cnt by omega]; exact k4

theorem apartK_spec {x y : List Key} (h : apartK x y = true) : ∀ k, k ∈ x → k ∉ y := fun k hk hy => by
  have := List.all_eq_true.1 (List.all_eq_true.1 h k hk) k hy
  simp at this

/-- What a state is when those in S are done. -/
def curSt (σ : Nat → St) (W : Nat → List Key) (S : Nat → Bool) : Nat → Key → UV
  | 0, k => σ 0 k
  | i + 1, k => if S i = true ∧ k ∈ W i then σ (i + 1) k else curSt σ W S i k

theorem curSt_eq {σ : Nat → St} {W : Nat → List Key} {S : Nat → Bool} {n : Nat} (hkeep : ∀ m, m < n → ∀ k, k ∉ W m → σ (m + 1) k = σ m k) {k : Key} {i : Nat} (hi : i ≤ n) (hw : ∀ j, j < n → k ∈ W j → (S j = true ↔ j < i)) : curSt σ W S n k = σ i k := by
  have h1 : ∀ m, m ≤ i → curSt σ W S m k = σ m k := by
    intro m
    induction m with
    | zero => intro _; rfl
    | succ m ih =>
      intro hm
      simp only [curSt]
      split
      · rfl
      · rename_i hn
        rw [ih (by omega)]
        refine (hkeep m (by omega) k fun hkw => hn ⟨(hw m (by omega) hkw).2 (by omega), hkw⟩).symm
  have h2 : ∀ d, i + d ≤ n → curSt σ W S (i + d) k = σ i k := by
    intro d
    induction d with
    | zero => intro _; exact h1 i (Nat.le_refl _)
    | succ d ih =>
      intro hd
      rw [show i + (d + 1) = (i + d) + 1 by omega]
      simp only [curSt]
      split
      · rename_i hy
        have := (hw (i + d) (by omega) hy.2).1 hy.1
        omega
      · exact ih (by omega)
  have := h2 (n - i) (by omega)
  rwa [show i + (n - i) = n by omega] at this

theorem curSt_congr {σ : Nat → St} {W : Nat → List Key} {S S' : Nat → Bool} {k : Key} : ∀ {n : Nat}, (∀ j, j < n → k ∈ W j → S j = S' j) → curSt σ W S n k = curSt σ W S' n k := by
  intro n
  induction n with
  | zero => intro _; rfl
  | succ n ih =>
    intro h
    simp only [curSt]
    rw [ih fun j hj => h j (by omega)]
    by_cases hk : k ∈ W n
    · rw [h n (by omega) hk]
    · simp [hk]

end Go.Proofs.YtnnnpppodblblaaGreat.Ev
/-
A region in whatever order.
-/
namespace Go.Proofs.YtnnnpppodblblaaGreat.Ev
open Go

variable {P : Program} {C : Ctx} {g : Gh} {st st' : St} {a : Act} {w : World} {α : Type}

theorem countP_upd {f f' : Nat → Bool} {i : Nat} (hi : f i = true) (hi' : f' i = false) (h : ∀ j, j ≠ i → f' j = f j) : ∀ (l : List Nat), l.Nodup → i ∈ l → l.countP f' + 1 = l.countP f := by
  intro l
  induction l with
  | nil => intro _ hm; simp at hm
  | cons x l ih =>
    intro hd hm
    have hd' := List.nodup_cons.1 hd
    by_cases e : x = i
    · subst e
      have : l.countP f' = l.countP f := List.countP_congr fun j hj => by rw [h j fun e => hd'.1 (e ▸ hj)]
      simp [List.countP_cons, hi, hi', this]
    · have hm : i ∈ l := by
        rcases List.mem_cons.1 hm with e' | e'
        · exact absurd e'.symm e
        · exact e'
      have := ih hd'.2 hm
      simp only [List.countP_cons, h x e]
      split <;> omega

theorem getD_set {listed : Array Bool} {i j : Nat} (hi : i < listed.size) : (listed.setIfInBounds i true).getD j false = if j = i then true else listed.getD j false := by
  by_cases e : j = i
  · subst e; simp [Array.getD_eq_getD_getElem?, Array.getElem?_setIfInBounds, hi]
  · have e' : ¬ i = j := fun h => e h.symm
    simp [Array.getD_eq_getD_getElem?, Array.getElem?_setIfInBounds, e, e']

theorem mem_ready {ops : Array Oper} {listed : Array Bool} {i : Nat} (hs : listed.size = ops.size) (h : i ∈ Region.ready .any ops listed) :
    i < ops.size ∧ listed.getD i false = false ∧ ∃ o, ops[i]? = some o ∧ ∀ e, e ∈ o.after.toList → Region.binds .any e = true → listed.getD e.on false = true := by
  simp only [Region.ready, List.mem_filter, List.mem_range, Bool.and_eq_true, Bool.not_eq_true'] at h
  obtain ⟨h1, h2, h3⟩ := h
  have hi : i < listed.size := by omega
  cases ho : ops[i]? with
  | none => rw [Array.getElem?_eq_none_iff] at ho; omega
  | some o =>
    rw [ho] at h3
    refine ⟨h1, by simpa [Array.getD, hi] using h2, o, rfl, fun e he hb => ?_⟩
    simp only [Option.map_some, Option.getD_some] at h3
    rw [← Array.all_toList] at h3
    have := List.all_eq_true.1 h3 e he
    rw [hb] at this
    simpa using this

theorem ready_nil {ops : Array Oper} {listed : Array Bool} (hs : listed.size = ops.size)
    (hb : ∀ i o, ops[i]? = some o → ∀ e, e ∈ o.after.toList → Region.binds .any e = true → e.on < i) (h : Region.ready .any ops listed = []) : ∀ j, j < ops.size → listed.getD j false = true := by
  intro j
  induction j using Nat.strongRecOn with
  | _ j ih =>
    intro hj
    cases hl : listed.getD j false with
    | true => rfl
    | false =>
      exfalso
      have hjl : j < listed.size := by omega
      have : j ∈ Region.ready .any ops listed := by
        simp only [Region.ready, List.mem_filter, List.mem_range, Bool.and_eq_true, Bool.not_eq_true']
        refine ⟨hj, by simpa [Array.getD, hjl] using hl, ?_⟩
        rw [Array.getElem?_eq_getElem hj]
        simp only [Option.map_some, Option.getD_some]
        rw [← Array.all_toList, List.all_eq_true]
        intro e he
        cases hbe : Region.binds .any e with
        | false => rfl
        | true =>
          have hlt := hb j _ (Array.getElem?_eq_getElem hj) e he hbe
          simp [ih e.on hlt (by omega)]
      rw [h] at this; simp at this

theorem regD_sound {ρ : Type} {E : Env} (hE : E.Ok P) (hn : E.nt = C.nt) (hc : CtxOk C) {ops : Array Oper} {rid : Nat} {Q : Exit → Act → World → Prop} {k : St → Option ρ} {r : ρ}
    (hk : ∀ g' st' a' w', Rel C g' st' a' w' → k st' = some r → Q .normal a' w') (h : Rel C g st a w) (hr : regD E ops rid k st = some r) :
    wpAny P .any ops Q ops.size (Array.replicate ops.size false) a w := by
  unfold regD at hr
  obtain ⟨σ, fs, s0, tr, _, hfin⟩ := regDGo_tr (fs := []) rfl hr
  split at hfin
  · rename_i hind
    have hfin : k (σ ops.size) = some r := by simpa using hfin
    replace tr := fun m (hm : m < ops.size) => tr m (Nat.zero_le _) (by omega)
    simp only [indepOk, Bool.and_eq_true, List.all_eq_true, List.mem_range] at hind
    obtain ⟨hbefore, hap⟩ := hind
    have hb : ∀ i o, ops[i]? = some o → ∀ e, e ∈ o.after.toList → Region.binds .any e = true → e.on < i := fun i o ho e he hbe => by
      have := hbefore i (Array.getElem?_eq_some_iff.1 ho).1
      rw [ho] at this
      simp only [Option.map_some, Option.getD_some] at this
      rw [← Array.all_toList] at this
      have := List.all_eq_true.1 this e he
      rw [hbe] at this
      simpa using this
    have hanc : ∀ i m, (masks ops.toList [])[i]? = some m → AncOk ops i m := masks_ok (fun k o hk => by simpa using hk) (fun i hi => by simp at hi) (fun i m hi => by simp at hi)
    let W : Nat → List Key := fun m => (fs.getD m ([], [])).2
    let R : Nat → List Key := fun m => (fs.getD m ([], [])).1
    have hrun : ∀ m, m < ops.size → ∃ o, ops[m]? = some o ∧ (opG E ops (baseOf rid m o) m o).run (σ m) = some ((), σ (m + 1)) ∧ (opG E ops (baseOf rid m o) m o).fp (σ m) [] [] = (R m, W m) := fun m hm => by
      obtain ⟨o, q1, q2, q3⟩ := tr m hm
      refine ⟨o, q1, q2, ?_⟩
      simp [R, W, q3]
    have hkeep : ∀ m, m < ops.size → ∀ k, k ∉ W m → σ (m + 1) k = σ m k := fun m hm k hk => by
      obtain ⟨o, q1, q2, q3⟩ := hrun m hm
      exact Acc.run_keeps _ [] [] (σ m) (σ (m + 1)) () q2 k (by rw [q3]; exact hk)
    have main : ∀ (fuel : Nat) (listed : Array Bool) (g : Gh) (s : St) (a : Act) (w : World), listed.size = ops.size → (List.range ops.size).countP (fun i => !listed.getD i false) ≤ fuel →
        Closed ops (fun i => listed.getD i false = true) → (∀ k, s k = curSt σ W (fun i => listed.getD i false) ops.size k) → Rel C g s a w → wpAny P .any ops Q fuel listed a w := by
      have final : ∀ (listed : Array Bool) (g : Gh) (s : St) (a : Act) (w : World), (∀ j, j < ops.size → listed.getD j false = true) → (∀ k, s k = curSt σ W (fun i => listed.getD i false) ops.size k) → Rel C g s a w → Q .normal a w := fun listed g s a w hall hs hrel => by
        have : s = σ ops.size := funext fun k => by
          rw [hs k]; exact curSt_eq hkeep (Nat.le_refl _) fun j hj _ => ⟨fun _ => hj, fun _ => hall j hj⟩
        subst this
        exact hk g _ a w hrel hfin
      intro fuel
      induction fuel with
      | zero =>
        intro listed g s a w hsz hcnt hcl hs hrel
        have hall : ∀ j, j < ops.size → listed.getD j false = true := fun j hj => by
          have h0 : (List.range ops.size).countP (fun i => !listed.getD i false) = 0 := by omega
          have := List.countP_eq_zero.1 h0 j (List.mem_range.2 hj)
          simpa using this
        refine ⟨?_, final listed g s a w hall hs hrel⟩
        cases hrd : Region.ready .any ops listed with
        | nil => rfl
        | cons i l =>
          obtain ⟨q1, q2, _⟩ := mem_ready hsz (i := i) (by rw [hrd]; simp)
          rw [hall i q1] at q2; cases q2
      | succ fuel ih =>
        intro listed g s a w hsz hcnt hcl hs hrel
        refine ⟨fun hnil => final listed g s a w (ready_nil hsz hb hnil) hs hrel, fun i hi => ?_⟩
        obtain ⟨q1, q2, o, q3, q4⟩ := mem_ready hsz hi
        obtain ⟨o', p1, p2, p3⟩ := hrun i q1
        rw [q3] at p1; cases p1
        have ord : ∀ k, (k ∈ R i ∨ k ∈ W i) → ∀ j, j < ops.size → k ∈ W j → (listed.getD j false = true ↔ j < i) := fun k hk j hj hkw => by
          have fap : ∀ x y, apartF x y = true → (∀ k, k ∈ x.2 → k ∉ y.1) ∧ (∀ k, k ∈ x.2 → k ∉ y.2) ∧ (∀ k, k ∈ x.1 → k ∉ y.2) := fun x y h => by
            simp only [apartF, Bool.and_eq_true] at h
            exact ⟨apartK_spec h.1.1, apartK_spec h.1.2, apartK_spec h.2⟩
          have tb : ∀ m n, ((masks ops.toList []).getD m 0).testBit n = true → AncOk ops m ((masks ops.toList []).getD m 0) := fun m n h => by
            cases hm : (masks ops.toList [])[m]? with
            | none => simp [hm] at h
            | some x => simpa [hm] using hanc m x hm
          rcases Nat.lt_trichotomy j i with hlt | heq | hgt
          · refine ⟨fun _ => hlt, fun _ => ?_⟩
            have := hap i q1 j hlt
            rw [Bool.or_eq_true] at this
            rcases this with h1 | h1
            · exact tb i j h1 (fun x => listed.getD x false = true) hcl o q3 q4 j h1
            · obtain ⟨a1, a2, a3⟩ := fap _ _ h1
              rcases hk with hk | hk
              · exact absurd hk (a1 k hkw)
              · exact absurd hk (a2 k hkw)
          · subst heq
            exact ⟨fun e => (by rw [q2] at e; cases e), fun e => absurd e (Nat.lt_irrefl _)⟩
          · refine ⟨fun hS => ?_, fun e => by omega⟩
            exfalso
            have := hap j hj i hgt
            rw [Bool.or_eq_true] at this
            rcases this with h1 | h1
            · obtain ⟨oj, hoj⟩ : ∃ oj, ops[j]? = some oj := ⟨_, Array.getElem?_eq_getElem hj⟩
              have := tb j i h1 (fun x => listed.getD x false = true) hcl oj hoj (fun e he hbe => hcl j oj hS hoj e he hbe) i h1
              rw [q2] at this; cases this
            · obtain ⟨a1, a2, a3⟩ := fap _ _ h1
              rcases hk with hk | hk
              · exact a3 k hk hkw
              · exact a2 k hk hkw
        have hsi : ∀ k, (k ∈ R i ∨ k ∈ W i) → s k = σ i k := fun k hk => by
          rw [hs k]; exact curSt_eq hkeep (Nat.le_of_lt q1) (ord k hk)
        obtain ⟨s2, r1, r2, r3, _⟩ := Acc.local_ _ [] [] (σ i) s () (σ (i + 1)) p2 (fun k hk => hsi k (.inl (by rw [p3] at hk; exact hk))) (fun k hk => hsi k (.inr (by rw [p3] at hk; exact hk)))
        rw [p3] at r2 r3
        refine opG_sim hE hn hc q3 hrel r1 fun g' a' w' hrel' => ih _ g' s2 a' w' (by simp [hsz]) ?_ ?_ ?_ hrel'
        · have hil : i < listed.size := by omega
          have := countP_upd (f := fun j => !listed.getD j false) (f' := fun j => !(listed.setIfInBounds i true).getD j false) (i := i) (by simp only [q2]; rfl) (by simp only [getD_set hil, if_true]; rfl)
            (fun j hj => by simp only [getD_set hil, if_neg hj]) (List.range ops.size) List.nodup_range (List.mem_range.2 q1)
          omega
        · have hil : i < listed.size := by omega
          intro x ox hx hox e he hbe
          simp only [getD_set hil] at hx ⊢
          split
          · rfl
          · by_cases hxi : x = i
            · subst hxi
              rw [q3] at hox; cases hox
              exact q4 e he hbe
            · rw [if_neg hxi] at hx
              exact hcl x ox hx hox e he hbe
        · have hil : i < listed.size := by omega
          intro k
          by_cases hkw : k ∈ W i
          · rw [r2 k hkw]
            refine (curSt_eq (i := i + 1) hkeep (by omega) fun j hj hj2 => ?_).symm
            simp only [getD_set hil]
            split
            · rename_i e; subst e; exact ⟨fun _ => by omega, fun _ => rfl⟩
            · rename_i e
              rw [ord k (.inr hkw) j hj hj2]; omega
          · rw [r3 k hkw, hs k]
            refine curSt_congr fun j hj hj2 => ?_
            simp only [getD_set hil]
            split
            · rename_i e; subst e; exact absurd hj2 hkw
            · rfl
    refine main ops.size _ g st a w (by simp) (by
      have := List.countP_le_length (l := List.range ops.size) (p := fun i => !(Array.replicate ops.size false).getD i false)
      simpa using this) (fun i o hS ho => ?_) (fun k => ?_) h
    · exfalso
      have hi := (Array.getElem?_eq_some_iff.1 ho).1
      simp [Array.getD, hi] at hS
    · rw [← s0]
      refine (curSt_eq (i := 0) hkeep (Nat.zero_le _) fun j hj _ => ?_).symm
      simp [Array.getD, hj]
  · cases hfin

end Go.Proofs.YtnnnpppodblblaaGreat.Ev
/-
Code: pieces with a name, and what stands between.
-/
namespace Go.Proofs.YtnnnpppodblblaaGreat.Ev
open Go

variable {P : Program} {C : Ctx} {g : Gh} {st st' : St} {a : Act} {w : World} {α : Type}

inductive Ex where
  | normal
  | exit (id : Nat)
  | ret
  deriving DecidableEq

def Ex.out : Ex → Exit
  | .normal => .normal
  | .exit id => .exit id
  | .ret => .ret

@[reducible] def ExD : List (Ex × J) → Type
  | [] => Empty
  | [p] => p.2.ty.den
  | p :: q :: r => p.2.ty.den ⊕ ExD (q :: r)

def rdSlots (l : List Nat) (k : List SV → Acc α) : Acc α :=
  match l with
  | [] => k []
  | n :: r => .rd (.slot n) fun | .sv v => rdSlots r fun vs => k (v :: vs) | _ => .fail

/-- A state as an interface's data. -/
def packC (j : J) (st : St) : Option j.ty.den := (rdSlots (j.slots.map (·.1)) fun ss => packJ false j ss fun x _ => .done x).go (fun x _ => some x) st

def exOut : (je : List (Ex × J)) → Ex → St → Option (ExD je)
  | [], _, _ => none
  | [p], e, st => if e = p.1 then packC p.2 st else none
  | p :: q :: r, e, st => if e = p.1 then (packC p.2 st).map .inl else (exOut (q :: r) e st).map .inr

def exIn {ρ : Type} : (je : List (Ex × J)) → ExD je → (Ex → St → Option ρ) → Option ρ
  | [], _, _ => none
  | [p], y, k => k p.1 (p.2.st y)
  | p :: q :: r, y, k => match y with
    | .inl y => k p.1 (p.2.st y)
    | .inr y => exIn (q :: r) y k

structure Cut where
  jin : J
  je : List (Ex × J)
  G : jin.ty.den → Option (ExD je)

def evC {ρ : Type} (E : Env) (cuts : List (Nat × Cut)) : Code → Nat → Bool → (Ex → St → Option ρ) → St → Option ρ
  | c, p, inn, k, st =>
    match (if inn = true then cuts.lookup p else none) with
    | some cut => (packC cut.jin st).bind fun x => (cut.G x).bind fun y => exIn cut.je y k
    | none =>
      match c with
      | .skip => k .normal st
      | .label _ => k .normal st
      | .region id ops draw => if draw = true then regD E ops id (k .normal) st else regT E ops id (List.range ops.size) (k .normal) st
      | .seq a b => evC E cuts a (2 * p) true (fun e st => match e with | .normal => evC E cuts b (2 * p + 1) true k st | e => k e st) st
      | .cond c a b => (opnd c fun v => asBool v fun b => .done b).go (fun t st => bif t then evC E cuts a (2 * p) true k st else evC E cuts b (2 * p + 1) true k st) st
      | .block id a => evC E cuts a (2 * p) true (fun e st => k (if e = .exit id then .normal else e) st) st
      | .exit id => k (.exit id) st
      | .ret => k .ret st
      | _ => none

/-- What a piece's name promises. -/
def Cut.Holds (P : Program) (nt : Nat) (c : Code) (cut : Cut) : Prop :=
  ∀ (C : Ctx), CtxOk C → C.nt = nt → ∀ (x : cut.jin.ty.den) (y : ExD cut.je), cut.G x = some y → ∀ (g : Gh) (a : Act) (w : World), Rel C g (cut.jin.st x) a w →
    ∀ (Q : Exit → Act → World → Prop), (∀ (ρ : Type) (k : Ex → St → Option ρ) (r : ρ), exIn cut.je y k = some r → (∀ e g' st' a' w', Rel C g' st' a' w' → k e st' = some r → Q e.out a' w') → c.wp P Q a w)

end Go.Proofs.YtnnnpppodblblaaGreat.Ev
/-
Code evaluation is right.
-/
namespace Go.Proofs.YtnnnpppodblblaaGreat.Ev
open Go

variable {P : Program} {C : Ctx} {g : Gh} {st st' : St} {a : Act} {w : World} {α : Type}

theorem rdSlots_run (h : Rel C g st a w) : ∀ {l : List Nat} {k : List SV → Acc α} {p : α × St}, (rdSlots l k).run st = some p →
    ∃ ss, AllRep (SVRep g) ss (l.map fun n => a.tmps.getD n undef) ∧ (k ss).run st = some p := by
  intro l
  induction l with
  | nil => intro k p hr; exact ⟨[], rfl, hr⟩
  | cons n r ih =>
    intro k p hr
    simp only [rdSlots, Acc.run] at hr
    split at hr
    · rename_i v hv
      obtain ⟨ss, h1, hr⟩ := ih hr
      exact ⟨v :: ss, ⟨_, _, rfl, h.slots n v hv, h1⟩, hr⟩
    · simp [Acc.run] at hr

theorem sized_self {n : Nat} (h : C.nt = n) : C.sized n = C := by subst h; rfl

theorem packC_run (hc : CtxOk C) (h : Rel C g st a w) {j : J} {x : j.ty.den} (hr : packC j st = some x) : ∃ g', Rel C g' (j.st x) a w := by
  unfold packC at hr
  rw [Acc.go_eq, Option.bind_eq_some_iff] at hr
  obtain ⟨⟨x', s1⟩, h1, h2⟩ := hr
  cases h2
  obtain ⟨ss, hs, h1⟩ := rdSlots_run h h1
  obtain ⟨x2, i, f, h1⟩ := packJ_run h hs h1
  simp only [Acc.run, Option.some.injEq, Prod.mk.injEq] at h1
  obtain ⟨rfl, rfl⟩ := h1
  have := f.join hc h (a' := a) (by simp) h.defers
  rw [sized_self h.nt.symm] at this
  exact ⟨_, this⟩

theorem exOut_in {ρ : Type} (hc : CtxOk C) (h : Rel C g st a w) : ∀ {je : List (Ex × J)} {e : Ex} {y : ExD je} {k : Ex → St → Option ρ} {r : ρ}, exOut je e st = some y → exIn je y k = some r →
    ∃ st' g', Rel C g' st' a w ∧ k e st' = some r := by
  intro je
  match je with
  | [] => intro e y k r h1; simp [exOut] at h1
  | [p] =>
    intro e y k r h1 h2
    have h1 : (if e = p.1 then packC p.2 st else none) = some y := h1
    by_cases he : e = p.1
    · subst he
      have h1 : packC p.2 st = some y := by simpa using h1
      obtain ⟨g', h3⟩ := packC_run hc h h1
      exact ⟨_, g', h3, h2⟩
    · simp [he] at h1
  | p :: q :: r' =>
    intro e y k r h1 h2
    have h1 : (if e = p.1 then (packC p.2 st).map (Sum.inl : _ → p.2.ty.den ⊕ ExD (q :: r')) else (exOut (q :: r') e st).map Sum.inr) = some y := h1
    by_cases he : e = p.1
    · subst he
      rw [if_pos rfl] at h1
      obtain ⟨y', h1', rfl⟩ := Option.map_eq_some_iff.1 h1
      obtain ⟨g', h3⟩ := packC_run hc h h1'
      exact ⟨_, g', h3, h2⟩
    · rw [if_neg he] at h1
      obtain ⟨y', h1', rfl⟩ := Option.map_eq_some_iff.1 h1
      exact exOut_in hc h (je := q :: r') h1' h2

inductive AtP (root : Code) : Nat → Code → Prop where
  | here : AtP root 1 root
  | seqL {p : Nat} {a b : Code} : AtP root p (.seq a b) → AtP root (2 * p) a
  | seqR {p : Nat} {a b : Code} : AtP root p (.seq a b) → AtP root (2 * p + 1) b
  | condL {p : Nat} {c : Operand} {a b : Code} : AtP root p (.cond c a b) → AtP root (2 * p) a
  | condR {p : Nat} {c : Operand} {a b : Code} : AtP root p (.cond c a b) → AtP root (2 * p + 1) b
  | block {p id : Nat} {a : Code} : AtP root p (.block id a) → AtP root (2 * p) a
  | loop {p : Nat} {a : Code} : AtP root p (.loop a) → AtP root (2 * p) a

def childL : Code → Option Code
  | .seq a _ => some a
  | .cond _ a _ => some a
  | .block _ a => some a
  | .loop a => some a
  | _ => none

def childR : Code → Option Code
  | .seq _ b => some b
  | .cond _ _ b => some b
  | _ => none

def codeAt (root : Code) : Nat → Nat → Option Code
  | 0, _ => none
  | f + 1, p => if p = 1 then some root else (codeAt root f (p / 2)).bind fun c => if p % 2 = 0 then childL c else childR c

theorem AtP.pos {root c : Code} {p : Nat} (h : AtP root p c) : 1 ≤ p := by
  induction h <;> omega

theorem AtP.codeAt {root c : Code} {p : Nat} (h : AtP root p c) : ∀ {f : Nat}, p < 2 ^ f → codeAt root f p = some c := by
  have fpos : ∀ {f p : Nat}, 2 ≤ p → p < 2 ^ f → ∃ f', f = f' + 1 ∧ p / 2 < 2 ^ f' := fun {f p} h1 h2 => by
    cases f with
    | zero => simp at h2; omega
    | succ f => exact ⟨f, rfl, by rw [Nat.pow_succ] at h2; omega⟩
  induction h with
  | here =>
    intro f hf
    cases f with
    | zero => simp at hf
    | succ f => simp [Ev.codeAt]
  | seqL h ih => intro f hf; have := h.pos; obtain ⟨f', rfl, h2⟩ := fpos (by omega) hf; have := ih (f := f') (by omega); simp [Ev.codeAt, this, childL, Nat.mul_div_cancel_left]; intro e; omega
  | seqR h ih => intro f hf; have := h.pos; obtain ⟨f', rfl, h2⟩ := fpos (by omega) hf; rename_i p a b; have e1 : (2 * p + 1) / 2 = p := by omega
                 have e2 : (2 * p + 1) % 2 = 1 := by omega
                 have := ih (f := f') (by omega); simp only [Ev.codeAt, show ¬ (2 * p + 1 = 1) by omega, if_false, e1, e2, this, childR]; rfl
  | condL h ih => intro f hf; have := h.pos; obtain ⟨f', rfl, h2⟩ := fpos (by omega) hf; have := ih (f := f') (by omega); simp [Ev.codeAt, this, childL, Nat.mul_div_cancel_left]; intro e; omega
  | condR h ih => intro f hf; have := h.pos; obtain ⟨f', rfl, h2⟩ := fpos (by omega) hf; rename_i p _ a b; have e1 : (2 * p + 1) / 2 = p := by omega
                  have e2 : (2 * p + 1) % 2 = 1 := by omega
                  have := ih (f := f') (by omega); simp only [Ev.codeAt, show ¬ (2 * p + 1 = 1) by omega, if_false, e1, e2, this, childR]; rfl
  | block h ih => intro f hf; have := h.pos; obtain ⟨f', rfl, h2⟩ := fpos (by omega) hf; have := ih (f := f') (by omega); simp [Ev.codeAt, this, childL, Nat.mul_div_cancel_left]; intro e; omega
  | loop h ih => intro f hf; have := h.pos; obtain ⟨f', rfl, h2⟩ := fpos (by omega) hf; have := ih (f := f') (by omega); simp [Ev.codeAt, this, childL, Nat.mul_div_cancel_left]; intro e; omega

theorem evC_sound {E : Env} (hE : E.Ok P) (hmx : P.follows .mixedOrders = true) (hn : E.nt = C.nt) (hc : CtxOk C) {cuts : List (Nat × Cut)} {root : Code}
    (hcut : ∀ p c cut, AtP root p c → cuts.lookup p = some cut → cut.Holds P E.nt c) {ρ : Type} {r : ρ} :
    ∀ {c : Code} {p : Nat} {inn : Bool} {k : Ex → St → Option ρ} {Q : Exit → Act → World → Prop} {g : Gh} {st : St} {a : Act} {w : World}, AtP root p c → Rel C g st a w →
      (∀ e g' st' a' w', Rel C g' st' a' w' → k e st' = some r → Q e.out a' w') → evC E cuts c p inn k st = some r → c.wp P Q a w := by
  have cutcase : ∀ {c : Code} {p : Nat} {inn : Bool} {k : Ex → St → Option ρ} {Q : Exit → Act → World → Prop} {g : Gh} {st : St} {a : Act} {w : World} {cut : Cut}, AtP root p c → Rel C g st a w →
      (∀ e g' st' a' w', Rel C g' st' a' w' → k e st' = some r → Q e.out a' w') → (if inn = true then cuts.lookup p else none) = some cut →
      ((packC cut.jin st).bind fun x => (cut.G x).bind fun y => exIn cut.je y k) = some r → c.wp P Q a w := by
    intro c p inn k Q g st a w cut hp h hk hl hr
    have hl : cuts.lookup p = some cut := by
      cases inn <;> simp at hl
      exact hl
    rw [Option.bind_eq_some_iff] at hr
    obtain ⟨x, h1, hr⟩ := hr
    rw [Option.bind_eq_some_iff] at hr
    obtain ⟨y, h2, hr⟩ := hr
    obtain ⟨g', h3⟩ := packC_run hc h h1
    exact hcut p _ cut hp hl C hc hn.symm x y h2 g' a w h3 Q ρ k r hr hk
  intro c
  induction c with
  | skip =>
    intro p inn k Q g st a w hp h hk hr
    rw [evC] at hr
    split at hr
    · rename_i hl; exact cutcase hp h hk hl hr
    · exact wp_skip (hk .normal g st a w h hr)
  | label l =>
    intro p inn k Q g st a w hp h hk hr
    rw [evC] at hr
    split at hr
    · rename_i hl; exact cutcase hp h hk hl hr
    · exact wp_label (hk .normal g st a w h hr)
  | exit id =>
    intro p inn k Q g st a w hp h hk hr
    rw [evC] at hr
    split at hr
    · rename_i hl; exact cutcase hp h hk hl hr
    · exact wp_exit (hk (.exit _) g st a w h hr)
  | ret =>
    intro p inn k Q g st a w hp h hk hr
    rw [evC] at hr
    split at hr
    · rename_i hl; exact cutcase hp h hk hl hr
    · exact wp_ret (hk .ret g st a w h hr)
  | region id ops draw =>
    intro p inn k Q g st a w hp h hk hr
    rw [evC] at hr
    split at hr
    · rename_i hl; exact cutcase hp h hk hl hr
    · cases draw with
      | true =>
        rw [if_pos rfl] at hr
        exact wp_region_any hmx (regD_sound hE hn hc (fun g' st' a' w' h1 h2 => hk .normal g' st' a' w' h1 h2) h.drew hr)
      | false =>
        rw [if_neg (by simp)] at hr
        exact wp_region (regT_sound hE hn hc (fun g' st' a' w' h1 h2 => hk .normal g' st' a' w' h1 h2) h hr)
  | seq x y ihx ihy =>
    intro p inn k Q g st a w hp h hk hr
    rw [evC] at hr
    split at hr
    · rename_i hl; exact cutcase hp h hk hl hr
    · refine wp_seq (ihx (.seqL hp) h (fun e g' st' a' w' h1 h2 => ?_) hr)
      cases e with
      | normal => exact ihy (.seqR hp) h1 hk h2
      | exit id => exact hk (.exit id) g' st' a' w' h1 h2
      | ret => exact hk .ret g' st' a' w' h1 h2
  | cond c x y ihx ihy =>
    intro p inn k Q g st a w hp h hk hr
    rw [evC] at hr
    split at hr
    · rename_i hl; exact cutcase hp h hk hl hr
    · rw [Acc.go_eq, Option.bind_eq_some_iff] at hr
      obtain ⟨⟨t, s1⟩, h1, h2⟩ := hr
      obtain ⟨v, hv, h1⟩ := opnd_run h h1
      obtain ⟨b, hb, h1⟩ := asBool_run hv h1
      simp only [Acc.run, Option.some.injEq, Prod.mk.injEq] at h1
      obtain ⟨rfl, rfl⟩ := h1
      cases b with
      | true => exact wp_cond_true hb (ihx (.condL hp) h hk h2)
      | false => exact wp_cond_false hb (ihy (.condR hp) h hk h2)
  | block id x ih =>
    intro p inn k Q g st a w hp h hk hr
    rw [evC] at hr
    split at hr
    · rename_i hl; exact cutcase hp h hk hl hr
    · refine wp_block (ih (.block hp) h (fun e g' st' a' w' h1 h2 => ?_) hr)
      cases e with
      | normal => exact hk .normal g' st' a' w' h1 (by simpa using h2)
      | exit id' =>
        simp only [Ex.out, Exit.inBlock]
        by_cases e : id' = id
        · subst e; rw [if_pos rfl]; exact hk .normal g' st' a' w' h1 (by simpa using h2)
        · rw [if_neg e]; exact hk (.exit id') g' st' a' w' h1 (by simpa [e] using h2)
      | ret => exact hk .ret g' st' a' w' h1 (by simpa using h2)
  | loop x _ =>
    intro p inn k Q g st a w hp h hk hr
    rw [evC] at hr
    split at hr
    · rename_i hl; exact cutcase hp h hk hl hr
    all_goals (intros; contradiction)
  | rangeFunc f ps x y _ _ =>
    intro p inn k Q g st a w hp h hk hr
    rw [evC] at hr
    split at hr
    · rename_i hl; exact cutcase hp h hk hl hr
    all_goals (intros; contradiction)
  | scope x _ =>
    intro p inn k Q g st a w hp h hk hr
    rw [evC] at hr
    split at hr
    · rename_i hl; exact cutcase hp h hk hl hr
    all_goals (intros; contradiction)
  | goto l =>
    intro p inn k Q g st a w hp h hk hr
    rw [evC] at hr
    split at hr
    · rename_i hl; exact cutcase hp h hk hl hr
    all_goals (intros; contradiction)
  | refuse m =>
    intro p inn k Q g st a w hp h hk hr
    rw [evC] at hr
    split at hr
    · rename_i hl; exact cutcase hp h hk hl hr
    all_goals (intros; contradiction)

end Go.Proofs.YtnnnpppodblblaaGreat.Ev
/-
Pieces, loops, functions.
-/
namespace Go.Proofs.YtnnnpppodblblaaGreat.Ev
open Go

variable {P : Program} {C : Ctx} {g : Gh} {st st' : St} {a : Act} {w : World} {α : Type} {tab : Tab}

/-! ### pieces -/
def pieceG (E : Env) (cuts : List (Nat × Cut)) (c : Code) (jin : J) (je : List (Ex × J)) : jin.ty.den → Option (ExD je) := fun x => evC E cuts c 1 false (fun e st => exOut je e st) (jin.st x)

def CutsHold (P : Program) (nt : Nat) (root : Code) (cuts : List (Nat × Cut)) : Prop := ∀ e, e ∈ cuts → ∃ c, e.1 < 2 ^ 200 ∧ codeAt root 200 e.1 = some c ∧ e.2.Holds P nt c

theorem CutsHold.nil {nt : Nat} {root : Code} : CutsHold P nt root [] := fun e he => by simp at he
theorem CutsHold.cons {nt : Nat} {root c : Code} {p : Nat} {cut : Cut} {r : List (Nat × Cut)} (h1 : Nat.blt p (2 ^ 200) = true) (h2 : codeAt root 200 p = some c) (h3 : cut.Holds P nt c) (h : CutsHold P nt root r) : CutsHold P nt root ((p, cut) :: r) := fun e he => by
  rcases List.mem_cons.1 he with e' | e'
  · subst e'; exact ⟨c, by simpa [Nat.blt_eq] using h1, h2, h3⟩
  · exact h e e'

theorem CutsHold.at {nt : Nat} {root : Code} {cuts : List (Nat × Cut)} (h : CutsHold P nt root cuts) : ∀ p c cut, AtP root p c → cuts.lookup p = some cut → cut.Holds P nt c := fun p c cut hp hl => by
  obtain ⟨c', h1, h2, h3⟩ := h _ (lookup_mem hl)
  have := hp.codeAt h1
  have h2 : Ev.codeAt root 200 p = some c' := h2
  rw [this] at h2; cases h2; exact h3

theorem piece_holds {E : Env} (hE : E.Ok P) (hmx : P.follows .mixedOrders = true) {c : Code} {cuts : List (Nat × Cut)} (hcut : CutsHold P E.nt c cuts) {cut : Cut} (hG : cut.G = pieceG E cuts c cut.jin cut.je) : cut.Holds P E.nt c := by
  intro C hc hn x y hy g a w h Q ρ k r hr hk
  rw [hG] at hy
  refine evC_sound hE hmx hn.symm hc hcut.at .here h (fun e g' st' a' w' h1 h2 => ?_) hy
  obtain ⟨st2, g2, h3, h4⟩ := exOut_in hc h1 h2 hr
  exact hk e g2 st2 a' w' h3 h4

/-! ### loops -/
def iterN {σ ρ : Type} (step : σ → Option (σ ⊕ ρ)) : Nat → σ → Option ρ
  | 0, _ => none
  | n + 1, x => match step x with
    | none => none
    | some (.inr y) => some y
    | some (.inl x') => iterN step n x'

open Classical in
/-- A loop's end, where it has one. -/
noncomputable def lim {σ ρ : Type} (step : σ → Option (σ ⊕ ρ)) (x : σ) : Option ρ := if h : ∃ n y, iterN step n x = some y then some (h.choose_spec.choose) else none

theorem iterN_det {σ ρ : Type} {step : σ → Option (σ ⊕ ρ)} : ∀ {n m : Nat} {x : σ} {y z : ρ}, iterN step n x = some y → iterN step m x = some z → y = z := by
  intro n
  induction n with
  | zero => intro m x y z h; simp [iterN] at h
  | succ n ih =>
    intro m x y z h h'
    cases m with
    | zero => simp [iterN] at h'
    | succ m =>
      simp only [iterN] at h h'
      split at h
      · cases h
      · rename_i e; rw [e] at h'; cases h; cases h'; rfl
      · rename_i e; rw [e] at h'; exact ih h h'

theorem lim_of {σ ρ : Type} {step : σ → Option (σ ⊕ ρ)} {n : Nat} {x : σ} {y : ρ} (h : iterN step n x = some y) : lim step x = some y := by
  have hex : ∃ n y, iterN step n x = some y := ⟨n, y, h⟩
  unfold lim
  rw [dif_pos hex]
  exact congrArg some (iterN_det hex.choose_spec.choose_spec h)

theorem lim_iff {σ ρ : Type} {step : σ → Option (σ ⊕ ρ)} {x : σ} {y : ρ} : lim step x = some y ↔ ∃ n, iterN step n x = some y := by
  refine ⟨fun h => ?_, fun ⟨n, h⟩ => lim_of h⟩
  unfold lim at h
  split at h
  · rename_i hex
    cases h
    exact ⟨_, hex.choose_spec.choose_spec⟩
  · cases h

theorem lim_eq {σ ρ : Type} (step : σ → Option (σ ⊕ ρ)) (x : σ) : lim step x = match step x with | none => none | some (.inr y) => some y | some (.inl x') => lim step x' := by
  apply Option.ext
  intro y
  rw [lim_iff]
  constructor
  · rintro ⟨n, h⟩
    cases n with
    | zero => simp [iterN] at h
    | succ n =>
      simp only [iterN] at h
      split at h
      · cases h
      · exact h
      · exact lim_of h
  · intro h
    split at h
    · cases h
    · rename_i e; exact ⟨1, by simp only [iterN, e]; exact h⟩
    · rename_i e
      obtain ⟨n, h⟩ := lim_iff.1 h
      exact ⟨n + 1, by simp only [iterN, e]; exact h⟩

def stepK (jhead : J) (je : List (Ex × J)) (e : Ex) (st : St) : Option (jhead.ty.den ⊕ ExD je) :=
  match e with
  | .normal => (packC jhead st).map .inl
  | e => (exOut je e st).map .inr

def stepG (E : Env) (cuts : List (Nat × Cut)) (body : Code) (jhead : J) (je : List (Ex × J)) : jhead.ty.den → Option (jhead.ty.den ⊕ ExD je) := fun x => evC E cuts body 1 true (stepK jhead je) (jhead.st x)

theorem least {p : Nat → Prop} : ∀ {n : Nat}, p n → ∃ m, p m ∧ ∀ k, p k → m ≤ k := by
  intro n
  induction n using Nat.strongRecOn with
  | _ n ih =>
    intro h
    by_cases hl : ∃ m, m < n ∧ p m
    · obtain ⟨m, h1, h2⟩ := hl; exact ih m h1 h2
    · exact ⟨n, h, fun k hk => Nat.le_of_not_lt fun hlt => hl ⟨k, hlt, hk⟩⟩

open Classical in
theorem loop_holds {E : Env} (hE : E.Ok P) (hmx : P.follows .mixedOrders = true) {body : Code} {cuts : List (Nat × Cut)} (hcut : CutsHold P E.nt body cuts) {cut : Cut} (hG : cut.G = lim (stepG E cuts body cut.jin cut.je)) :
    cut.Holds P E.nt (.loop body) := by
  intro C hc hn x y hy g a w h Q ρ k r hr hk
  rw [hG] at hy
  obtain ⟨n, hy⟩ := lim_iff.1 hy
  let good : Act → World → Nat → Prop := fun a w n => ∃ x g, Rel C g (cut.jin.st x) a w ∧ iterN (stepG E cuts body cut.jin cut.je) n x = some y
  let μ : Act → World → Nat := fun a w => if h : ∃ n, good a w n then (least h.choose_spec).choose else 0
  have hμ : ∀ a w n, good a w n → good a w (μ a w) ∧ μ a w ≤ n := fun a w n hg => by
    have hex : ∃ n, good a w n := ⟨n, hg⟩
    have := (least hex.choose_spec).choose_spec
    simp only [μ, dif_pos hex]
    exact ⟨this.1, this.2 n hg⟩
  refine wp_loop (fun a w => ∃ n, good a w n) μ ⟨n, x, g, h, hy⟩ fun a w hI => ?_
  obtain ⟨n, hg⟩ := hI
  obtain ⟨⟨x, g, h, hit⟩, _⟩ := hμ a w n hg
  cases hm : μ a w with
  | zero => rw [hm] at hit; simp [iterN] at hit
  | succ m =>
    rw [hm] at hit
    simp only [iterN] at hit
    cases hs : stepG E cuts body cut.jin cut.je x with
    | none => rw [hs] at hit; cases hit
    | some s =>
      rw [hs] at hit
      refine evC_sound hE hmx hn.symm hc hcut.at (r := s) .here h (fun e g' st' a' w' h1 h2 => ?_) hs
      cases e with
      | normal =>
        obtain ⟨x', h3, rfl⟩ := Option.map_eq_some_iff.1 h2
        obtain ⟨g2, h4⟩ := packC_run hc h1 h3
        have hg2 : good a' w' m := ⟨x', g2, h4, hit⟩
        exact ⟨⟨m, hg2⟩, Nat.lt_succ_of_le (hμ a' w' m hg2).2⟩
      | exit id =>
        obtain ⟨y', h3, rfl⟩ := Option.map_eq_some_iff.1 h2
        simp only [Option.some.injEq] at hit
        subst hit
        obtain ⟨st2, g2, h4, h5⟩ := exOut_in hc h1 h3 hr
        exact hk (.exit id) g2 st2 a' w' h4 h5
      | ret =>
        obtain ⟨y', h3, rfl⟩ := Option.map_eq_some_iff.1 h2
        simp only [Option.some.injEq] at hit
        subst hit
        obtain ⟨st2, g2, h4, h5⟩ := exOut_in hc h1 h3 hr
        exact hk .ret g2 st2 a' w' h4 h5

end Go.Proofs.YtnnnpppodblblaaGreat.Ev
/-
A function's contract.
-/
namespace Go.Proofs.YtnnnpppodblblaaGreat.Ev
open Go

variable {P : Program} {C : Ctx} {g : Gh} {st st' : St} {a : Act} {w : World} {α : Type} {tab : Tab}

def outSlots (tab : Tab) (l : List ResultVar) (k : List SV → Acc α) : Acc α :=
  match l with
  | [] => k []
  | .tmp t :: r => rdSlot t fun v => outSlots tab r fun vs => k (v :: vs)
  | .cell c t :: r => rdSlot c fun v =>
    match cellsOf tab t, v with
    | some (ls, agg), .ptr b off => .rd (.box b) fun
      | .bx _ cs => let us := (cs.drop off).take ls.length; if us.length = ls.length then mkVal agg us fun v => outSlots tab r fun vs => k (v :: vs) else .fail
      | _ => .fail
    | _, _ => .fail

def backHs (l : List Nat) (k : List SV → Acc α) : Acc α :=
  match l with
  | [] => k []
  | h :: r => rdH h fun _ => backHs r fun vs => k (.val (.leaf (.sl h)) :: vs)

def outF (E : Env) (rs : List ResultVar) (backs : List Nat) (j : J) (st : St) : Option j.ty.den :=
  (outSlots E.tab rs fun ss => backHs backs fun bs => packJ false j (ss ++ bs) fun x _ => .done x).go (fun x _ => some x) st

def fnK (E : Env) (rs : List ResultVar) (backs : List Nat) (j : J) (e : Ex) (st : St) : Option j.ty.den :=
  match e with
  | .exit _ => none
  | _ => outF E rs backs j st

/-- What a function computes. -/
def fnF (E : Env) (cuts : List (Nat × Cut)) (body : Code) (rs : List ResultVar) (backs : List Nat) (jin jout : J) : jin.ty.den → Option jout.ty.den := fun x => evC E cuts body 1 true (fnK E rs backs jout) (jin.st x)

def resOf (a : Act) : ResultVar → Sem Value
  | .tmp t => pure (a.tmps.getD t undef)
  | .cell c t => do loadVar t (← asAddr (a.tmps.getD c undef))

theorem outSlots_run (h : Rel C g st a w) (ht : TabOk P tab) : ∀ {l : List ResultVar} {k : List SV → Acc α} {p : α × St}, (outSlots tab l k).run st = some p →
    ∃ ss vs, AllRep (SVRep g) ss vs ∧ (l.mapM (resOf a)).run P w = .ok vs w ∧ vs.length = l.length ∧ (k ss).run st = some p := by
  intro l
  induction l with
  | nil => intro k p hr; exact ⟨[], [], rfl, rfl, rfl, hr⟩
  | cons x r ih =>
    intro k p hr
    cases x with
    | tmp t =>
      simp only [outSlots, rdSlot, Acc.run] at hr
      split at hr
      · rename_i v hv
        obtain ⟨ss, vs, h1, h2, h3, hr⟩ := ih hr
        refine ⟨v :: ss, _ :: vs, ⟨_, _, rfl, h.slots t v hv, h1⟩, ?_, by simp [h3], hr⟩
        simp [List.mapM_cons, resOf, h2]
      · simp [Acc.run] at hr
    | cell c t =>
      simp only [outSlots, rdSlot, Acc.run] at hr
      split at hr
      · rename_i v hv
        have hs := h.slots c v hv
        split at hr
        · rename_i tys agg b off hc
          obtain ⟨ad, ha, hu⟩ := hs
          simp only [Acc.run] at hr
          split at hr
          · rename_i ro cs hb
            obtain ⟨ad', ha', hrep⟩ := h.boxes b ro cs hb
            rw [ha] at ha'; cases ha'
            split at hr
            · rename_i hlen
              obtain ⟨us, h1, h2, h3⟩ := hrep.read off tys.length hlen
              obtain ⟨v', hv', hr⟩ := mkVal_run h3 hr
              obtain ⟨ss, vs, q1, q2, q3, hr⟩ := ih hr
              refine ⟨v' :: ss, _ :: vs, ⟨_, _, rfl, hv', q1⟩, ?_, by simp [q3], hr⟩
              have := run_loadVar (w := w) ht hc h1 h2 (fun e => by subst e; exact one_of_agg hc)
              simp only [List.mapM_cons, resOf, hu]
              simp [asAddr, this, q2]
            · simp [Acc.run] at hr
          · simp [Acc.run] at hr
        · simp [Acc.run] at hr
      · simp [Acc.run] at hr

theorem backHs_run (h : Rel C g st a w) : ∀ {l : List Nat} {k : List SV → Acc α} {p : α × St}, (backHs l k).run st = some p → ∃ ss vs, AllRep (SVRep g) ss vs ∧ (k ss).run st = some p := by
  intro l
  induction l with
  | nil => intro k p hr; exact ⟨[], [], rfl, hr⟩
  | cons q r ih =>
    intro k p hr
    simp only [backHs] at hr
    obtain ⟨r', u, h1, h2, h3, h4, h5⟩ := rdH_run h hr
    obtain ⟨ss, vs, k1, hr⟩ := ih h5
    obtain ⟨A, c, hv⟩ := h4.slice
    exact ⟨.val (.leaf (.sl q)) :: ss, u :: vs, ⟨_, _, rfl, ⟨h3, by rw [hv]; rfl⟩, k1⟩, hr⟩

theorem Core.congr {tmps tmps' : Array Value} (c : Core g st tmps w) (h : ∀ n, tmps'.getD n undef = tmps.getD n undef) : Core g st tmps' w :=
  { c with slots := fun n v hn => by rw [h]; exact c.slots n v hn }

theorem AllRep.two {β : Type} {R : β → Value → Prop} {ds es : List β} {cs fs : List Value} (h : AllRep R ds cs) (h' : AllRep R es fs) : AllRep R (ds ++ es) (cs ++ fs) := h.append h'

theorem results_run {fn : Func} {vs : List Value} (h : (fn.results.toList.mapM (resOf a)).run P w = .ok vs w) : (results fn a.tmps).run P w = .ok (if h : vs.length = 1 then vs[0] else .tuple vs.toArray) w := by
  have e : (fn.results.mapM (resOf a)) = List.toArray <$> fn.results.toList.mapM (resOf a) := by
    simp [Array.mapM_eq_mapM_toList]
  have e2 : results fn a.tmps = (do let vs ← fn.results.mapM (resOf a); pure (if h : vs.size = 1 then vs[0] else .tuple vs)) := by
    unfold results
    congr 1
  rw [e2, e]
  simp [h]

theorem retV_list {vs : List Value} {us : Array Value} (h : us.toList.take vs.length = vs) : retV vs.length us = (if h : vs.length = 1 then vs[0] else .tuple vs.toArray) := by
  have hk : ∀ k, k < vs.length → us.getD k undef = vs.getD k undef := fun k hk => by
    have : vs[k]? = us.toList[k]? := by rw [← h, List.getElem?_take, if_pos hk]
    simp [List.getD, this]
  unfold retV
  split
  · rename_i h1
    have := hk 0 (by omega)
    rw [this]
    simp [h1, List.getD, List.getElem?_eq_getElem (show 0 < vs.length by omega)]
  · congr 2
    apply List.ext_getElem?
    intro n
    by_cases hn : n < vs.length
    · have := hk n hn
      rw [List.getElem?_eq_getElem hn]
      simp only [List.getElem?_map, List.getElem?_range hn, Option.map_some, this, List.getD, List.getElem?_eq_getElem hn, Option.getD_some]
    · simp [List.getElem?_eq_none (Nat.le_of_not_lt hn), Nat.le_of_not_lt hn]

theorem fn_holds {E : Env} (hE : E.Ok P) (hmx : P.follows .mixedOrders = true) (s : Sig) {fn : Func} {body : Code} (hf : P.funcs[s.f]? = some fn) (hname : (fn.name == "runtime.NumGoroutine") = false) (hb : fn.body = some body)
    {cuts : List (Nat × Cut)} (hcut : CutsHold P E.nt body cuts) {backs : List Nat} (hn : E.nt = fn.ntmps) (hsl' : Nat.ble s.jin.slots.length fn.ntmps = true) (hres : fn.results.toList.length = s.nres)
    (hout : (s.jout.slots.map (·.1)) = List.range s.jout.slots.length) (hF : s.F = fnF E cuts body fn.results.toList backs s.jin s.jout) : s.Holds P := by
  have hsl := Nat.le_of_ble_eq_true hsl'
  refine ⟨⟨fn, hf, hname, by rw [hb]; rfl⟩, fun g w args x r hx hsz hcore hp hpb => ?_⟩
  let a0 : Act := { tmps := args ++ Array.replicate (fn.ntmps - args.size) undef, defers := [] }
  have ha0 : a0.tmps.size = fn.ntmps := by simp [a0]; omega
  have hcore' : Core g (s.jin.st x) a0.tmps w := hcore.congr fun n => by
    simp only [a0]
    by_cases h1 : n < args.size
    · simp [Array.getD_eq_getD_getElem?, Array.getElem?_append, h1]
    · simp only [Array.getD_eq_getD_getElem?, Array.getElem?_append, h1, if_false, Array.getElem?_replicate]
      rw [Array.getElem?_eq_none (Nat.le_of_not_lt h1)]
      split <;> rfl
  have hrel := hcore'.entry hp hpb (a := a0) rfl
  rw [ha0] at hrel
  refine calls_of_wp hf hb ?_
  rw [hF] at hx
  have hc := entry_ok g (s.jin.st x) w fn.ntmps
  refine evC_sound (C := entryCtx g (s.jin.st x) w fn.ntmps) hE hmx hn hc hcut.at .here hrel (fun e g' st' a' w' h1 h2 => ?_) hx
  have done : outF E fn.results.toList backs s.jout st' = some r → a'.defers = [] ∧ ∃ v, (results fn a'.tmps).run P w' = .ok v w' ∧ ∃ g2 us, Rel (entryCtx g (s.jin.st x) w us.size) g2 (s.jout.st r) ⟨us, []⟩ w' ∧ v = retV s.nres us := by
    intro q2
    unfold outF at q2
    rw [Acc.go_eq, Option.bind_eq_some_iff] at q2
    obtain ⟨⟨x', s1⟩, q3, q4⟩ := q2
    have q4 : x' = r := Option.some.inj q4
    subst q4
    obtain ⟨ss, vs, k1, k2, k3, q5⟩ := outSlots_run h1 hE.tab q3
    obtain ⟨bs, us, k4, q6⟩ := backHs_run h1 q5
    obtain ⟨x2, i, f, q7⟩ := packJ_run h1 (k1.append k4) q6
    simp only [Acc.run, Option.some.injEq, Prod.mk.injEq] at q7
    obtain ⟨rfl, rfl⟩ := q7
    refine ⟨h1.defers, _, results_run k2, i.gh g', (vs ++ us).toArray, f.join hc h1 (a' := ⟨(vs ++ us).toArray, []⟩) (slots_range hout f.vs.length) rfl, ?_⟩
    rw [← hres, ← k3]
    exact (retV_list (by simp)).symm
  cases e with
  | exit id => cases h2
  | normal => exact done h2
  | ret => exact done h2

end Go.Proofs.YtnnnpppodblblaaGreat.Ev
/-
What the kernel has to reduce for the tables.
-/
namespace Go.Proofs.YtnnnpppodblblaaGreat.Ev
open Go

variable {P : Program}

theorem TIOk.stOf {n : Nat} {ls : List Ty} {fs : List (Nat × Nat × Nat)}
    (h1 : ((P.underlying n).bind fun d => match d with | .struct fields => some (fields.toList.map (fun f => (f.offset, (P.info? f.type).map (·.size), f.type))) | _ => none) = some (fs.map (fun p => (p.1, some p.2.1, p.2.2))))
    (h2 : (P.info? n).map (fun i => (i.zero, i.size)) = some (some (.agg (zeroVals (Ty.of ls)).toArray), ls.length)) (h3 : (zeroVals (Ty.of ls)).length = ls.length)
    (h4 : fs.all (fun p => decide (0 < p.2.1) && decide (p.1 + p.2.1 ≤ ls.length)) = true) : TIOk P n (.st ls fs) := by
  refine ⟨?_, h2, h3, h4⟩
  cases hu : P.underlying n with
  | none => rw [hu] at h1; cases h1
  | some d =>
    rw [hu] at h1
    cases d <;> simp only [Option.bind_some] at h1 <;> try (cases h1; done)
    exact ⟨_, rfl, Option.some.inj h1⟩

theorem TIOk.slOf {n e bytes : Nat} {t : Ty} (h1 : P.underlying n = some (.slice e)) (h2 : (P.info? n).map (·.size) = some 1)
    (h3 : (P.info? e).map (fun i => (i.zero.map Value.cells, i.size, i.bytes)) = some (some (zeroVals t).toArray, t.size, bytes)) (h4 : Nat.blt 0 bytes = true) : TIOk P n (.sl e t bytes) :=
  ⟨h1, h2, h3, by simpa [Nat.blt_eq] using h4⟩

theorem EqOk.of {t : Nat} (h1 : P.stoodInHeld t = false) (h2 : P.eqGuardType P.depth t = false) (h3 : ((P.underlying t).map fun d => match d with | .struct fields => fields.toList.all (fun f => f.name != "_") | _ => true) = some true) : EqOk P t := by
  refine ⟨h1, h2, fun fields h => ?_⟩
  rw [h] at h3
  exact Option.some.inj h3

theorem TabOk.cons {n : Nat} {t : TI} {r : Tab} (h : TIOk P n t) (h' : TabOk P r) : TabOk P ((n, t) :: r) := ⟨h, h'⟩

theorem eqs_nil : ∀ t, t ∈ ([] : List Nat) → EqOk P t := fun t h => by simp at h
theorem eqs_cons {t : Nat} {r : List Nat} (h : EqOk P t) (h' : ∀ t, t ∈ r → EqOk P t) : ∀ u, u ∈ t :: r → EqOk P u := fun u hu => by
  rcases List.mem_cons.1 hu with e | e
  · subst e; exact h
  · exact h' u e
theorem sigs_nil : ∀ s, s ∈ ([] : List Sig) → s.Ok ∧ s.Holds P := fun t h => by simp at h
theorem sigs_cons {s : Sig} {r : List Sig} (h1 : s.Ok) (h2 : s.Holds P) (h' : ∀ s, s ∈ r → s.Ok ∧ s.Holds P) : ∀ u, u ∈ s :: r → u.Ok ∧ u.Holds P := fun u hu => by
  rcases List.mem_cons.1 hu with e | e
  · subst e; exact ⟨h1, h2⟩
  · exact h' u e

end Go.Proofs.YtnnnpppodblblaaGreat.Ev
/-
Short forms for the printed contracts.
-/
namespace Go.Proofs.YtnnnpppodblblaaGreat.Ev
open Go

variable {P : Program}

def letv {α β : Type} (a : α) (f : α → β) : β := f a

end Go.Proofs.YtnnnpppodblblaaGreat.Ev
namespace Go.Proofs.YtnnnpppodblblaaGreat.Sh
open Go Go.Proofs.YtnnnpppodblblaaGreat.Ev
@[reducible] def p (n : Nat) : Nat := 10000000 + n
@[reducible] def n (k : Nat) : Nat := 20000000 + k
@[reducible] def I : Ty := .int .i64
@[reducible] def i : JL := .sc I
/-- A struct's cells: its slices get what stands in the list. -/
@[reducible] def mk : List Ty → List (Nat × List Nat × List Nat) → List JL
  | [], _ => []
  | .sl e :: r, h :: hs => .sl e h.1 h.2.1 h.2.2 :: mk r hs
  | t :: r, hs => .sc t :: mk r hs
@[reducible] def lb (a b : List Nat) : List (Nat × Bool) := a.map (fun l => (l, false)) ++ b.map (fun l => (l, true))

end Go.Proofs.YtnnnpppodblblaaGreat.Sh
namespace Go.Proofs.YtnnnpppodblblaaGreat.Ev
open Go

variable {P : Program}

/-- A function with its contract. -/
structure FnC (P : Program) where
  s : Sig
  ok : s.Ok
  holds : s.Holds P

@[reducible] def mkE (tab : Tab) (nt : Nat) (eqs : List Nat) (us : List (FnC P)) : Env := ⟨tab, eqs, us.map (·.s), nt⟩

theorem mkE_ok {tab : Tab} (ht : TabOk P tab) {nt : Nat} {eqs : List Nat} (he : ∀ t, t ∈ eqs → EqOk P t) {us : List (FnC P)} : (mkE tab nt eqs us).Ok P :=
  ⟨ht, he, fun s hs => by
    obtain ⟨u, _, rfl⟩ := List.mem_map.1 hs
    exact ⟨u.ok, u.holds⟩⟩

theorem cut_cons {nt : Nat} {root : Code} {q : Nat} {c : Code} {cut : Cut} {r : List (Nat × Cut)} (h1 : (Nat.blt q (2 ^ 200), codeAt root 200 q) = (true, some c)) (h3 : cut.Holds P nt c) (h : CutsHold P nt root r) : CutsHold P nt root ((q, cut) :: r) :=
  .cons (congrArg Prod.fst h1) (congrArg Prod.snd h1) h3 h

theorem mkC {E : Env} (hE : E.Ok P) (hmx : P.follows .mixedOrders = true) (s : Sig) {fn : Func} {body : Code} {cuts : List (Nat × Cut)} (hcut : CutsHold P E.nt body cuts) {backs : List Nat}
    (h : (P.funcs[s.f]?, (fn.name == "runtime.NumGoroutine"), fn.body, E.nt, Nat.ble s.jin.slots.length fn.ntmps, fn.results.toList.length, s.jout.slots.map (·.1)) = (some fn, false, some body, fn.ntmps, true, s.nres, List.range s.jout.slots.length))
    (hF : s.F = fnF E cuts body fn.results.toList backs s.jin s.jout) : s.Holds P := by
  simp only [Prod.mk.injEq] at h
  obtain ⟨h1, h2, h3, h4, h5, h6, h7⟩ := h
  exact fn_holds hE hmx s h1 h2 h3 hcut h4 h5 h6 h7 hF

end Go.Proofs.YtnnnpppodblblaaGreat.Ev
/-
What a row reads of its arguments is plain data that lies in memory.
-/
namespace Go.Proofs.YtnnnpppodblblaaGreat.Ev
open Go

variable {P : Program} {w : World} {H : Type} {enc : TypeId × Value → H} {tab : Tab}

/-- What every value of a type in memory meets. -/
def Fit : (t : Ty) → t.den → Prop
  | .unit, _ => True
  | .int k, n => (Lit.int k n).wf = true
  | .bool, _ => True
  | .str, s => s.size ≤ maxLen
  | .pair a b, x => Fit a x.1 ∧ Fit b x.2
  | .sl e, xs => xs.length ≤ maxLen ∧ ∀ x, x ∈ xs → Fit e x

def asTy (tys : List Ty) (agg : Bool) : Ty := if agg = true then Ty.of tys else match tys with | [t] => t | _ => .unit

def fieldsGo (tab : Tab) (f : Nat → Bool) : List (Nat × Nat × Nat) → Nat → List Ty → Bool
  | [], _, ls => ls.isEmpty
  | p :: r, o, ls => match cellsOf tab p.2.2 with
    | some (tys, _) => p.1 == o && (p.2.1 == tys.length && (decide (ls.take tys.length = tys) && (f p.2.2 && fieldsGo tab f r (o + tys.length) (ls.drop tys.length))))
    | none => false

/-- The table is whole below a type. -/
def deep (tab : Tab) : Nat → Nat → Bool
  | 0, _ => false
  | f + 1, t => match tab.lookup t with
    | some (.sc _) => true
    | some (.st ls fs) => fieldsGo tab (deep tab f) fs 0 ls
    | some (.sl e ty _) => deep tab f e && (match cellsOf tab e with | some (tys, agg) => decide (asTy tys agg = ty) && (Nat.blt 0 ty.size && (agg || tys.length == 1)) | none => false)
    | none => false

def All (w : World) (b : Nat) : Prop := b < w.heap.size

theorem choose_list {α : Type} {Q : Nat → α → Prop} : ∀ n, (∀ i, i < n → ∃ x, Q i x) → ∃ xs : List α, xs.length = n ∧ ∀ i x, xs[i]? = some x → Q i x := by
  intro n
  induction n with
  | zero => intro _; exact ⟨[], rfl, fun i x h => by simp at h⟩
  | succ n ih =>
    intro h
    obtain ⟨xs, h1, h2⟩ := ih fun i hi => h i (by omega)
    obtain ⟨x, hx⟩ := h n (by omega)
    refine ⟨xs ++ [x], by simp [h1], fun i y hy => ?_⟩
    by_cases hi : i < n
    · rw [List.getElem?_append_left (by omega)] at hy; exact h2 i y hy
    · rw [List.getElem?_append_right (by omega)] at hy
      have : i = n := by
        have := (List.getElem?_eq_some_iff.1 hy).1
        simp at this; omega
      subst this
      simp [h1] at hy
      subst hy; exact hx

theorem of_append {L : Nat → Prop} : ∀ {l1 l2 : List Ty} {c1 c2 : List Value} {x1 : (Ty.of l1).den} {x2 : (Ty.of l2).den}, DRep w L (Ty.of l1) x1 c1 → DRep w L (Ty.of l2) x2 c2 → Fit (Ty.of l1) x1 → Fit (Ty.of l2) x2 →
    ∃ x : (Ty.of (l1 ++ l2)).den, DRep w L (Ty.of (l1 ++ l2)) x (c1 ++ c2) ∧ Fit (Ty.of (l1 ++ l2)) x := by
  intro l1
  induction l1 with
  | nil => intro l2 c1 c2 x1 x2 h1 h2 f1 f2; simp only [Ty.of, DRep] at h1; subst h1; exact ⟨x2, h2, f2⟩
  | cons a r ih =>
    intro l2 c1 c2 x1 x2 h1 h2 f1 f2
    obtain ⟨d1, d2, rfl, k1, k2⟩ := h1
    obtain ⟨x, e1, e2⟩ := ih k2 h2 f1.2 f2
    exact ⟨(x1.1, x), ⟨d1, d2 ++ c2, by simp, k1, e1⟩, f1.1, e2⟩

theorem asTy_rep {L : Nat → Prop} {tys : List Ty} {agg : Bool} (h1 : (agg || tys.length == 1) = true) {x : (Ty.of tys).den} {cs : List Value} (h : DRep w L (Ty.of tys) x cs) (f : Fit (Ty.of tys) x) :
    ∃ y : (asTy tys agg).den, DRep w L (asTy tys agg) y cs ∧ Fit (asTy tys agg) y := by
  cases agg with
  | true => exact ⟨x, h, f⟩
  | false =>
    simp only [Bool.false_or, beq_iff_eq] at h1
    match tys, h1 with
    | [t], _ =>
      obtain ⟨c1, c2, rfl, k1, k2⟩ := h
      simp only [Ty.of, DRep] at k2
      subst k2
      exact ⟨x.1, by simpa [asTy] using k1, by simpa [asTy] using f.1⟩

theorem cellsOf_cells {t : Nat} {tys : List Ty} {agg : Bool} (ht : TabOk P tab) (hc : cellsOf tab t = some (tys, agg)) : P.cellsOf t = tys.length := by
  unfold cellsOf at hc
  unfold Program.cellsOf
  split at hc
  · rename_i ty hl
    cases hc
    have h := ht.get hl
    cases hi : P.info? t with
    | none => cases ty <;> simp [TIOk, hi] at h
    | some i => cases ty <;> simp [TIOk, hi] at h <;> simp [h]
  · rename_i ls fs hl
    cases hc
    have h := (ht.get hl).2.1
    cases hi : P.info? t with
    | none => simp [hi] at h
    | some i => simp [hi] at h; simp [h.2]
  · rename_i e ty b hl
    cases hc
    have h := (ht.get hl).2.1
    cases hi : P.info? t with
    | none => simp [hi] at h
    | some i => simp [hi] at h; simp [h]
  · cases hc

theorem trod_rep (ht : TabOk P tab) {held : Bool} : ∀ (f fuel t : Nat) (tys : List Ty) (agg : Bool) (cs : List Value) (x : DataW H × List MemPlace), deep tab f t = true → cellsOf tab t = some (tys, agg) →
    DataW.trod enc P w 0 (fun _ => true) held fuel t cs = some x → ∃ y : (Ty.of tys).den, DRep w (All w) (Ty.of tys) y cs ∧ Fit (Ty.of tys) y := by
  intro f
  induction f with
  | zero => intro fuel t tys agg cs x hd; simp [deep] at hd
  | succ f ih =>
    intro fuel t tys agg cs x hd hc h
    simp only [deep] at hd
    split at hd
    · rename_i ty hl
      simp only [cellsOf, hl, Option.some.injEq, Prod.mk.injEq] at hc
      obtain ⟨rfl, rfl⟩ := hc
      have hti := ht.get hl
      cases ty <;> simp only [TIOk] at hti
      · rename_i k
        obtain ⟨n, rfl, _, hwf⟩ := DataW.trod_int hti.1 h
        exact ⟨(n, ()), ⟨_, [], rfl, rfl, rfl⟩, hwf, trivial⟩
      · obtain ⟨b, rfl, _⟩ := DataW.trod_bool hti.1 h
        exact ⟨(b, ()), ⟨_, [], rfl, rfl, rfl⟩, trivial, trivial⟩
      · obtain ⟨s, rfl, _, hs⟩ := DataW.trod_string hti.1 h
        exact ⟨(s, ()), ⟨_, [], rfl, rfl, rfl⟩, hs, trivial⟩
    · rename_i ls fs hl
      have hcc := cellsOf_cells ht hc
      simp only [cellsOf, hl, Option.some.injEq, Prod.mk.injEq] at hc
      obtain ⟨rfl, rfl⟩ := hc
      obtain ⟨⟨fields, hu, hf⟩, _⟩ := ht.get hl
      obtain ⟨xs, n, rfl, _, hlen, hxl, hget⟩ := DataW.trod_struct hu h
      rw [hcc] at hlen
      have key : ∀ (r : List (Nat × Nat × Nat)) (fl : List Field) (k o : Nat) (l : List Ty), fieldsGo tab (deep tab f) r o l = true → fl.map (fun q => (q.offset, (P.info? q.type).map (·.size), q.type)) = r.map (fun q => (q.1, some q.2.1, q.2.2)) →
          (∀ i q, fl[i]? = some q → fields[k + i]? = some q) → o + l.length = cs.length → ∃ y : (Ty.of l).den, DRep w (All w) (Ty.of l) y (cs.drop o) ∧ Fit (Ty.of l) y := by
        intro r
        induction r with
        | nil =>
          intro fl k o l hg _ _ ho
          simp only [fieldsGo, List.isEmpty_iff] at hg
          subst hg
          exact ⟨(), by simp only [Ty.of, DRep]; apply List.drop_eq_nil_of_le; simp at ho; omega, trivial⟩
        | cons p r ihr =>
          intro fl k o l hg hfl hfi ho
          cases fl with
          | nil => simp at hfl
          | cons q fl =>
            simp only [List.map_cons, List.cons.injEq, Prod.mk.injEq] at hfl
            obtain ⟨⟨e1, e2, e3⟩, hfl⟩ := hfl
            simp only [fieldsGo] at hg
            split at hg
            · rename_i tys' agg' hc'
              simp only [Bool.and_eq_true, beq_iff_eq, decide_eq_true_eq] at hg
              obtain ⟨g1, g2, g3, g4, g5⟩ := hg
              have hq := hfi 0 q rfl
              simp only [Nat.add_zero] at hq
              have hr := hget k q (by simpa using hq)
              have hkx : k < xs.length := by
                rw [hxl]
                exact (Array.getElem?_eq_some_iff.1 hq).1
              rw [List.getElem?_eq_getElem hkx, e3, cellsOf_cells ht hc', e1, g1] at hr
              obtain ⟨y1, k1, k2⟩ := ih n p.2.2 tys' agg' _ _ g4 hc' hr
              have hll : tys'.length ≤ l.length := by
                have := congrArg List.length g3
                simp at this; omega
              obtain ⟨y2, k3, k4⟩ := ihr fl (k + 1) (o + tys'.length) (l.drop tys'.length) g5 hfl (fun i q' hq' => by
                have := hfi (i + 1) q' (by simpa using hq')
                rwa [show k + (i + 1) = k + 1 + i by omega] at this) (by simp; omega)
              obtain ⟨y, k5, k6⟩ := of_append k1 k3 k2 k4
              have hl' : l = tys' ++ l.drop tys'.length := by
                conv => lhs; rw [← List.take_append_drop tys'.length l, g3]
              have hcs : cs.drop o = (cs.drop o).take tys'.length ++ cs.drop (o + tys'.length) := by
                rw [← List.drop_drop, List.take_append_drop]
              rw [hcs, hl']
              exact ⟨y, k5, k6⟩
            · cases hg
      obtain ⟨y, k1, k2⟩ := key fs fields.toList 0 0 ls hd hf (fun i q hq => by simpa using hq) (by simpa using hlen.symm)
      simp only [List.drop_zero] at k1
      exact ⟨y, k1, k2⟩
    · rename_i e ty by' hl
      simp only [cellsOf, hl, Option.some.injEq, Prod.mk.injEq] at hc
      obtain ⟨rfl, rfl⟩ := hc
      obtain ⟨hu, _, _, _⟩ := ht.get hl
      simp only [Bool.and_eq_true] at hd
      obtain ⟨hde, hd⟩ := hd
      split at hd
      · rename_i tys' agg' hc'
        simp only [Bool.and_eq_true, decide_eq_true_eq, Nat.blt_eq] at hd
        obtain ⟨hty, hsz, hone⟩ := hd
        have hce := cellsOf_cells ht hc'
        have hsize : ty.size = P.cellsOf e := by
          rw [hce, ← hty]
          cases agg' with
          | true => simp only [asTy, if_true]; exact cellsOf_size ht hc'
          | false =>
            simp only [Bool.false_or, beq_iff_eq] at hone
            match tys', hone with
            | [t'], _ =>
              have := cellsOf_size ht hc'
              simp only [asTy, Ty.of, Ty.size] at this ⊢
              simpa using this
        rcases DataW.trod_slice hu h with ⟨rfl, _⟩ | ⟨ad, len, cap, elems, rest, n, rfl, rfl, _, _, hle, hcap, hel, hget, hsp, _⟩
        · exact ⟨([], ()), ⟨_, [], rfl, ⟨_, rfl, SRep.nil⟩, rfl⟩, ⟨by simp, fun x hx => by simp at hx⟩, trivial⟩
        · obtain ⟨hrl, hrest⟩ := hsp rfl
          have each : ∀ i, i < cap → ∃ cs', w.cells? 0 (ad.add (i * ty.size)) ty.size = some cs' ∧ ∃ y, DataW.trod enc P w 0 (fun _ => true) held n e cs' = some y := fun i hi => by
            have : ∃ y, (w.cells? 0 (ad.add (i * P.cellsOf e)) (P.cellsOf e)).bind (DataW.trod enc P w 0 (fun _ => true) held n e) = some y := by
              by_cases hil : i < len
              · rw [hget i hil]; exact ⟨_, List.getElem?_eq_getElem (by omega)⟩
              · have := hrest (i - len) (by omega)
                rw [show len + (i - len) = i by omega] at this
                rw [this]; exact ⟨_, List.getElem?_eq_getElem (by omega)⟩
            obtain ⟨y, hy⟩ := this
            rw [Option.bind_eq_some_iff] at hy
            obtain ⟨cs', h1, h2⟩ := hy
            exact ⟨cs', by rw [hsize]; exact h1, y, h2⟩
          rcases Nat.eq_zero_or_pos cap with h0 | h0
          · subst h0
            have : len = 0 := by omega
            subst this
            exact ⟨([], ()), ⟨_, [], rfl, ⟨_, rfl, some ad, 0, rfl, by simp, fun _ => rfl, fun _ _ e => by omega⟩, rfl⟩, ⟨by simp, fun x hx => by simp at hx⟩, trivial⟩
          · obtain ⟨cs0, hc0, _⟩ := each 0 h0
            have hz := (World.cells?_some hc0).2.2 0 hsz
            have hl0 := (World.cells?_some hc0).2.1
            rw [List.getElem?_eq_getElem (by omega), Nat.zero_mul] at hz
            have hz0 : w.cell? ad = some cs0[0] := by simpa [Addr.add] using hz
            unfold World.cell? at hz0
            split at hz0
            · rename_i arr aty fr hb
              split at hz0
              · cases hz0
              · rename_i hspot
                have hspot : ad.spot = none := by simpa using hspot
                have hcell : ∀ k, w.cell? (ad.add k) = arr[ad.off + k]? := fun k => by rw [add_plain hspot, cell_of hb]
                have hcs : ∀ i, i < cap → ∀ cs', w.cells? 0 (ad.add (i * ty.size)) ty.size = some cs' → cs'.length = ty.size ∧ ∀ j u, cs'[j]? = some u → arr[ad.off + i * ty.size + j]? = some u := fun i hi cs' hcs' => by
                  obtain ⟨_, q1, q2⟩ := World.cells?_some hcs'
                  refine ⟨q1, fun j u hj => ?_⟩
                  have hjl : j < ty.size := by rw [← q1]; exact (List.getElem?_eq_some_iff.1 hj).1
                  have := q2 j hjl
                  rw [add_plain hspot, add_plain rfl, cell_of hb, hj] at this
                  exact this
                obtain ⟨xs, x1, x2⟩ := choose_list (Q := fun i (x : ty.den) => ∃ cs' : List Value, cs'.length = ty.size ∧ (∀ j u, cs'[j]? = some u → arr[ad.off + i * ty.size + j]? = some u) ∧ DRep w (All w) ty x cs' ∧ Fit ty x) len fun i hi => by
                  obtain ⟨cs', h1, y, h2⟩ := each i (by omega)
                  obtain ⟨y', k1, k2⟩ := ih n e tys' agg' cs' y hde hc' h2
                  obtain ⟨z, k3, k4⟩ := asTy_rep hone k1 k2
                  obtain ⟨m1, m2⟩ := hcs i (by omega) cs' h1
                  rw [← hty] at m1 m2 ⊢
                  exact ⟨z, cs', m1, m2, k3, k4⟩
                refine ⟨(xs, ()), ⟨_, [], rfl, ⟨_, rfl, some ad, cap, by rw [x1], by show xs.length ≤ cap; omega, fun e => (by cases e), fun ad' e _ => ?_⟩, rfl⟩, ⟨by show xs.length ≤ maxLen; omega, fun x hx => ?_⟩, trivial⟩
                · cases e
                  obtain ⟨csl, hcl, _⟩ := each (cap - 1) (by omega)
                  obtain ⟨m1, m2⟩ := hcs (cap - 1) (by omega) csl hcl
                  have m3 := m2 (ty.size - 1) _ (List.getElem?_eq_getElem (by omega))
                  have m4 := (Array.getElem?_eq_some_iff.1 m3).1
                  have m5 : (cap - 1) * ty.size + ty.size = cap * ty.size := by
                    have := Nat.add_mul (cap - 1) 1 ty.size
                    rw [Nat.one_mul] at this
                    rw [← this]; congr 1; omega
                  refine ⟨hspot, (Array.getElem?_eq_some_iff.1 hb).1, arr, aty, fr, hb, by omega, fun i x hx => ?_⟩
                  obtain ⟨cs', q1, q2, q3, _⟩ := x2 i x hx
                  exact ⟨cs', q1, q2, q3⟩
                · obtain ⟨i, hi⟩ := List.getElem?_of_mem hx
                  obtain ⟨cs', _, _, _, q4⟩ := x2 i x hi
                  exact q4
            · cases hz0
      · cases hd
    · cases hd

end Go.Proofs.YtnnnpppodblblaaGreat.Ev
/-
From what a row reads to a function's interface, and back.
-/
namespace Go.Proofs.YtnnnpppodblblaaGreat.Ev
open Go

variable {P : Program} {w : World} {H : Type} {enc : TypeId × Value → H} {tab : Tab}

def jlTy : JL → Option Ty
  | .sc t => match t with | .int _ => some t | .bool => some t | .str => some t | _ => none
  | .sl e _ _ _ => some (.sl e)
  | _ => none

def JLRep (w : World) (j : JL) (x : j.ty.den) (v : Value) : Prop := DRep w (All w) j.ty x [v]

def JVRep (w : World) : (jv : JV) → jv.ty.den → Value → Prop
  | .leaf j, x, v => JLRep w j x v
  | .agg js, x, v => ∃ cs, v = .agg cs ∧ DRep w (All w) (Ty.of (js.map JL.ty)) x cs.toList
  | _, _, _ => False

def JVsRep (w : World) : (js : List (Nat × JV)) → (tysV js).den → List Value → Prop
  | [], _, vs => vs = []
  | j :: js, x, vs => ∃ v r, vs = v :: r ∧ JVRep w j.2 x.1 v ∧ JVsRep w js x.2 r

def slOk (labs : List (Nat × Bool)) (l : List Nat) : Bool := l.all fun c => (labs.lookup c).isSome
def jlOk (labs : List (Nat × Bool)) : JL → Bool
  | .sl e _ sp inn => slOk labs sp && slOk labs inn && !sp.isEmpty && (e.plain || !inn.isEmpty)
  | j => (jlTy j).isSome
def jvOk (labs : List (Nat × Bool)) : JV → Bool
  | .leaf j => jlOk labs j
  | .agg js => js.all (jlOk labs)
  | _ => false

def entryOk (j : J) : Bool :=
  j.boxes.isEmpty && (j.labs.all fun p => isP p.1 && !p.2) && ((j.slots.map (·.1)) == List.range j.slots.length) && noDup j.hids && (j.slots.all fun p => jvOk j.labs p.2)

/-- The values of the handles. -/
def hdsL : (js : List JL) → List Value → List (Nat × Value)
  | .sl _ h _ _ :: js, v :: vs => (h, v) :: hdsL js vs
  | _ :: js, _ :: vs => hdsL js vs
  | _, _ => []

def hdsV (jv : JV) (v : Value) : List (Nat × Value) :=
  match jv, v with
  | .leaf j, v => hdsL [j] [v]
  | .agg js, .agg cs => hdsL js cs.toList
  | _, _ => []

def hdsVs : List (Nat × JV) → List Value → List (Nat × Value)
  | j :: js, v :: vs => hdsV j.2 v ++ hdsVs js vs
  | _, _ => []

def entryGh (j : J) (vs : List Value) (w : World) : Gh where
  hd := fun h => (hdsVs j.slots vs).lookup h
  bxa := fun _ => none
  lb := fun b l => (j.labs.lookup l).isSome = true ∧ b < w.heap.size

theorem entryGh_lb {j : J} {vs : List Value} {sp : List Nat} (h1 : slOk j.labs sp = true) (h2 : sp.isEmpty = false) {b : Nat} (hb : All w b) : LB (entryGh j vs w) (age0 sp) b := by
  cases sp with
  | nil => cases h2
  | cons c r =>
    simp only [slOk, List.all_cons, Bool.and_eq_true] at h1
    exact ⟨(c, 0), by simp [age0], h1.1, hb⟩

/-- What the state's entries say of one part. -/
def EntF (g : Gh) (w : World) (k : Key) (u : UV) : Prop :=
  match k, u with
  | .hnd h, .hr r => ∃ v, g.hd h = some v ∧ SRep w (LB g r.spine) (DRep w (LB g r.inner) r.e) r.e.size r.xs v ∧ ∀ p, p ∈ r.spine ++ r.inner → p.2 = 0
  | _, _ => False

theorem jl_ent {j : J} {vs : List Value} {jl : JL} {x : jl.ty.den} {v : Value} (hok : jlOk j.labs jl = true) (hr : JLRep w jl x v) (hh : ∀ h u, (h, u) ∈ hdsL [jl] [v] → (entryGh j vs w).hd h = some u) :
    (∀ k u, (k, u) ∈ (unLeaf jl x).1 → EntF (entryGh j vs w) w k u) ∧ LeafRep (entryGh j vs w) (unLeaf jl x).2 v := by
  cases jl with
  | dead => simp [jlOk, jlTy] at hok
  | ref _ => simp [jlOk, jlTy] at hok
  | sc t =>
    refine ⟨fun k u hm => by simp [unLeaf] at hm, ?_⟩
    cases t <;> simp [jlOk, jlTy] at hok <;> simp only [JLRep, JL.ty, DRep, List.cons.injEq, and_true] at hr <;> subst hr <;> rfl
  | sl e h sp inn =>
    obtain ⟨v', hv', hs⟩ := hr
    simp only [List.cons.injEq, and_true] at hv'
    subst hv'
    simp only [jlOk, Bool.and_eq_true, Bool.not_eq_true', Bool.or_eq_true] at hok
    obtain ⟨⟨⟨o1, o2⟩, o3⟩, o4⟩ := hok
    have hg := hh h v (by simp [hdsL])
    refine ⟨fun k u hm => ?_, hg, ?_⟩
    · simp only [unLeaf, List.mem_singleton, Prod.mk.injEq] at hm
      obtain ⟨rfl, rfl⟩ := hm
      refine ⟨v, hg, hs.mono (fun b hb => ⟨entryGh_lb o1 o3 hb, rfl⟩) fun y cs hy => ?_, fun p hp => ?_⟩
      · rcases o4 with o4 | o4
        · exact hy.plain o4
        · exact hy.mono fun b hb => ⟨entryGh_lb o2 (by simpa using o4) hb, rfl⟩
      · rcases List.mem_append.1 hp with hp | hp <;> exact (age0_mem hp).2
    · obtain ⟨A, c, e', _⟩ := hs; rw [e']; rfl

theorem jls_ent {j : J} {vs : List Value} : ∀ {js : List JL} {x : (Ty.of (js.map JL.ty)).den} {cs : List Value}, js.all (jlOk j.labs) = true → DRep w (All w) (Ty.of (js.map JL.ty)) x cs →
    (∀ h u, (h, u) ∈ hdsL js cs → (entryGh j vs w).hd h = some u) → (∀ k u, (k, u) ∈ (unLs js x).1 → EntF (entryGh j vs w) w k u) ∧ AllRep (LeafRep (entryGh j vs w)) (unLs js x).2 cs := by
  intro js
  induction js with
  | nil => intro x cs _ hr _; have hr : cs = [] := hr; subst hr; exact ⟨fun k u hm => by simp [unLs] at hm, rfl⟩
  | cons jl js ih =>
    intro x cs hok hr hh
    simp only [List.all_cons, Bool.and_eq_true] at hok
    obtain ⟨c1, c2, rfl, h1, h2⟩ := hr
    have hone : ∃ v, c1 = [v] := by
      cases jl with
      | dead => simp [jlOk, jlTy] at hok
      | ref _ => simp [jlOk, jlTy] at hok
      | sc t => cases t <;> simp [jlOk, jlTy] at hok <;> exact ⟨_, h1⟩
      | sl e h sp inn => obtain ⟨v, hv, _⟩ := h1; exact ⟨v, hv⟩
    obtain ⟨v, rfl⟩ := hone
    obtain ⟨a1, a2⟩ := jl_ent (vs := vs) hok.1 h1 fun h u hm => hh h u (by
      cases jl <;> simp [hdsL] at hm <;> simp [hdsL, hm])
    obtain ⟨b1, b2⟩ := ih hok.2 h2 fun h u hm => hh h u (by
      cases jl <;> first | exact hm | exact List.mem_cons_of_mem _ hm)
    refine ⟨fun k u hm => ?_, v, c2, rfl, a2, b2⟩
    simp only [unLs, List.mem_append] at hm
    rcases hm with hm | hm
    · exact a1 k u hm
    · exact b1 k u hm

theorem jv_ent {j : J} {vs : List Value} {jv : JV} {x : jv.ty.den} {v : Value} (hok : jvOk j.labs jv = true) (hr : JVRep w jv x v) (hh : ∀ h u, (h, u) ∈ hdsV jv v → (entryGh j vs w).hd h = some u) :
    (∀ k u, (k, u) ∈ (unV jv x).1 → EntF (entryGh j vs w) w k u) ∧ SVRep (entryGh j vs w) (unV jv x).2 v := by
  cases jv with
  | leaf jl => exact jl_ent hok hr hh
  | agg js =>
    obtain ⟨cs, rfl, hr⟩ := hr
    obtain ⟨a1, a2⟩ := jls_ent (vs := vs) hok hr hh
    exact ⟨a1, cs, rfl, a2⟩
  | ptr _ _ => exact hr.elim
  | fn _ _ => exact hr.elim

theorem jvs_ent {j : J} {vs : List Value} : ∀ {js : List (Nat × JV)} {x : (tysV js).den} {us : List Value}, (js.all fun p => jvOk j.labs p.2) = true → JVsRep w js x us → (∀ h u, (h, u) ∈ hdsVs js us → (entryGh j vs w).hd h = some u) →
    ∀ (n : Nat), (js.map (·.1)) = List.range' n js.length → ∀ k u, (k, u) ∈ unVs js x → (∃ i s, k = .slot i ∧ u = .sv s ∧ n ≤ i ∧ ∃ v, us[i - n]? = some v ∧ SVRep (entryGh j vs w) s v) ∨ EntF (entryGh j vs w) w k u := by
  intro js
  induction js with
  | nil => intro x us _ _ _ n _ k u hm; simp [unVs] at hm
  | cons jv js ih =>
    intro x us hok hr hh n hn k u hm
    simp only [List.all_cons, Bool.and_eq_true] at hok
    obtain ⟨v, r, rfl, h1, h2⟩ := hr
    simp only [List.map_cons, List.length_cons, List.range'_succ, List.cons.injEq] at hn
    obtain ⟨a1, a2⟩ := jv_ent (vs := vs) hok.1 h1 fun h u hm => hh h u (by simp [hdsVs, hm])
    simp only [unVs, List.mem_cons, List.mem_append, Prod.mk.injEq] at hm
    rcases hm with ⟨rfl, rfl⟩ | hm | hm
    · exact .inl ⟨jv.1, _, rfl, rfl, by omega, v, by rw [hn.1]; simp, a2⟩
    · exact .inr (a1 k u hm)
    · rcases ih hok.2 h2 (fun h u hm => hh h u (by simp [hdsVs, hm])) (n + 1) hn.2 k u hm with ⟨i, s, e1, e2, e3, v', e4, e5⟩ | e
      · refine .inl ⟨i, s, e1, e2, by omega, v', ?_, e5⟩
        rw [show i - n = (i - (n + 1)) + 1 by omega]
        simpa using e4
      · exact .inr e

theorem hds_hids : ∀ {js : List JL} {vs : List Value}, (hdsL js vs).map (·.1) <+: js.flatMap JL.hids := by
  intro js
  induction js with
  | nil => intro vs; simp [hdsL]
  | cons j js ih =>
    intro vs
    cases vs with
    | nil => cases j <;> simp [hdsL]
    | cons v vs => cases j <;> simp [hdsL, JL.hids] <;> exact ih

theorem nodup_lookup {β : Type} : ∀ {l : List (Nat × β)}, (l.map (·.1)).Nodup → ∀ {k : Nat} {v : β}, (k, v) ∈ l → l.lookup k = some v := by
  intro l
  induction l with
  | nil => intro _ k v h; simp at h
  | cons p r ih =>
    intro hd k v h
    simp only [List.map_cons, List.nodup_cons] at hd
    rcases List.mem_cons.1 h with e | e
    · subst e; simp
    · have hne : k ≠ p.1 := fun e' => hd.1 (e' ▸ List.mem_map.2 ⟨_, e, rfl⟩)
      rw [show p = (p.1, p.2) from rfl, lookup_cons_ne hne]
      exact ih hd.2 e

theorem hdsV_sub {jv : JV} {v : Value} : ((hdsV jv v).map (·.1)).Sublist jv.hids := by
  cases jv with
  | leaf j =>
    have := hds_hids (js := [j]) (vs := [v])
    simp only [List.flatMap_cons, List.flatMap_nil, List.append_nil] at this
    exact this.sublist
  | agg js =>
    cases v <;> first | exact (hds_hids).sublist | exact List.nil_sublist _
  | _ => cases v <;> exact List.nil_sublist _

theorem hdsVs_sub : ∀ {js : List (Nat × JV)} {vs : List Value}, ((hdsVs js vs).map (·.1)).Sublist (js.flatMap fun p => p.2.hids) := by
  intro js
  induction js with
  | nil => intro vs; simp [hdsVs]
  | cons j js ih =>
    intro vs
    cases vs with
    | nil => simp [hdsVs]
    | cons v vs =>
      simp only [hdsVs, List.map_append, List.flatMap_cons]
      exact hdsV_sub.append ih

theorem entry_core {j : J} (hok : entryOk j = true) {vs : List Value} {x : j.ty.den} (hr : JVsRep w j.slots x.1 vs) :
    Core (entryGh j vs w) (j.st x) vs.toArray w ∧ (∀ b l, (entryGh j vs w).lb b l → isP l = true) ∧ (∀ b ad, (entryGh j vs w).bxa b = some ad → isP b = true) := by
  simp only [entryOk, Bool.and_eq_true, List.isEmpty_iff, List.all_eq_true, beq_iff_eq, Bool.not_eq_true'] at hok
  obtain ⟨⟨⟨⟨ob, ol⟩, on⟩, od⟩, os⟩ := hok
  have hnd : ((hdsVs j.slots vs).map (·.1)).Nodup := by
    refine hdsVs_sub.nodup ?_
    have := nodup_of od
    unfold J.hids at this
    rw [ob] at this
    simpa using this
  have hh : ∀ h u, (h, u) ∈ hdsVs j.slots vs → (entryGh j vs w).hd h = some u := fun h u hm => nodup_lookup hnd hm
  have hslots := jvs_ent (j := j) (vs := vs) (List.all_eq_true.2 os) hr hh 0 (by rw [on, List.range_eq_range'])
  have hlab : ∀ c mt, j.labs.lookup c = some mt → isP c = true ∧ mt = false := fun c mt h => by
    have := ol _ (lookup_mem h); simpa using this
  have E : ∀ k u, (k, u) ∈ j.kv x → (∃ c mt, k = .lab c ∧ u = .ep mt 0) ∨ (∃ i s, k = .slot i ∧ u = .sv s ∧ ∃ v, vs[i]? = some v ∧ SVRep (entryGh j vs w) s v) ∨ EntF (entryGh j vs w) w k u := fun k u hm => by
    simp only [J.kv, List.mem_append, List.mem_map] at hm
    rcases hm with ⟨p, _, e⟩ | hm | hm
    · cases e; exact .inl ⟨_, _, rfl, rfl⟩
    · rcases hslots k u hm with ⟨i, s, e1, e2, _, v, e4, e5⟩ | e
      · exact .inr (.inl ⟨i, s, e1, e2, v, by simpa using e4, e5⟩)
      · exact .inr (.inr e)
    · have nobox : ∀ {bs : List (Nat × Bool × List JL)} (y : (tysB bs).den), bs = [] → ∀ e, e ∉ unBs bs y := fun y e => by subst e; intro e; simp [unBs]
      exact absurd hm (nobox x.2 ob _)
  have hin : ∀ h v, (hdsVs j.slots vs).lookup h = some v → ∃ r, j.st x (.hnd h) = .hr r := fun h v hv => by
    have hm := lookup_mem hv
    have : h ∈ j.hids := by
      unfold J.hids
      exact List.mem_append_left _ (hdsVs_sub.subset (List.mem_map.2 ⟨_, hm, rfl⟩))
    have : ∃ r, (Key.hnd h, UV.hr r) ∈ j.kv x := by
      unfold J.hids at this
      rw [ob] at this
      simp only [List.flatMap_nil, List.append_nil] at this
      obtain ⟨r, hr⟩ := mem_hidsVs (x := x.1) this
      exact ⟨r, by simp only [J.kv, List.mem_append]; exact .inr (.inl hr)⟩
    obtain ⟨r, hr⟩ := this
    obtain ⟨u, hu1, hu2⟩ := J.st_some hr
    rcases E _ _ hu2 with ⟨_, _, e, _⟩ | ⟨_, _, e, _⟩ | e
    · cases e
    · cases e
    · cases u <;> simp only [EntF] at e
      exact ⟨_, hu1⟩
  refine ⟨{
    slots := fun n v hv => by
      rcases E _ _ (J.st_mem hv (by simp)) with ⟨_, _, e, _⟩ | ⟨i, s, e, e2, u, e3, e4⟩ | e
      · cases e
      · cases e; cases e2
        have : vs.toArray.getD n undef = u := by simp [Array.getD_eq_getD_getElem?, e3]
        rw [this]; exact e4
      · exact e.elim
    hnds := fun h r hv => by
      rcases E _ _ (J.st_mem hv (by simp)) with ⟨_, _, e, _⟩ | ⟨_, _, e, _⟩ | ⟨v, e1, e2, _⟩
      · cases e
      · cases e
      · exact ⟨v, e1, fun _ => e2⟩
    boxes := fun b ro ls hv => by
      rcases E _ _ (J.st_mem hv (by simp)) with ⟨_, _, e, _⟩ | ⟨_, _, e, _⟩ | e
      · cases e
      · cases e
      · exact e.elim
    hdom := hin
    bdom := fun b ad hb => by cases hb
    hlabs := fun h r hv p hp => by
      rcases E _ _ (J.st_mem hv (by simp)) with ⟨_, _, e, _⟩ | ⟨_, _, e, _⟩ | ⟨v, e1, e2, e3⟩
      · cases e
      · cases e
      · have hz := e3 p hp
        -- the label is one of the interface's
        have hm := J.st_mem hv (by simp)
        have : (j.labs.lookup p.1).isSome = true := by
          have hjl : ∀ (jl : JL) (y : jl.ty.den), jlOk j.labs jl = true → (Key.hnd h, UV.hr r) ∈ (unLeaf jl y).1 → ∀ p, p ∈ r.spine ++ r.inner → (j.labs.lookup p.1).isSome = true := fun jl y ho hm p hp => by
            cases jl with
            | sl e hid sp inn =>
              simp only [unLeaf, List.mem_singleton, Prod.mk.injEq, UV.hr.injEq] at hm
              obtain ⟨_, rfl⟩ := hm
              simp only [jlOk, Bool.and_eq_true] at ho
              rcases List.mem_append.1 hp with hp | hp
              · exact List.all_eq_true.1 ho.1.1.1 _ (age0_mem hp).1
              · exact List.all_eq_true.1 ho.1.1.2 _ (age0_mem hp).1
            | _ => simp [unLeaf] at hm
          have hjls : ∀ (js : List JL) (y : (Ty.of (js.map JL.ty)).den), js.all (jlOk j.labs) = true → (Key.hnd h, UV.hr r) ∈ (unLs js y).1 → ∀ p, p ∈ r.spine ++ r.inner → (j.labs.lookup p.1).isSome = true := fun js => by
            induction js with
            | nil => intro y _ hm; simp [unLs] at hm
            | cons jl js ih =>
              intro y ho hm
              simp only [List.all_cons, Bool.and_eq_true] at ho
              simp only [unLs, List.mem_append] at hm
              rcases hm with hm | hm
              · exact hjl jl y.1 ho.1 hm
              · exact ih y.2 ho.2 hm
          have hjvs : ∀ (js : List (Nat × JV)) (y : (tysV js).den), (∀ q, q ∈ js → jvOk j.labs q.2 = true) → (Key.hnd h, UV.hr r) ∈ unVs js y → ∀ p, p ∈ r.spine ++ r.inner → (j.labs.lookup p.1).isSome = true := fun js => by
            induction js with
            | nil => intro y _ hm; simp [unVs] at hm
            | cons jv js ih =>
              intro y ho hm
              simp only [unVs, List.mem_cons, List.mem_append, Prod.mk.injEq] at hm
              rcases hm with ⟨e, _⟩ | hm | hm
              · cases e
              · have o1 := ho jv (by simp)
                obtain ⟨n, jv⟩ := jv
                cases jv with
                | leaf jl => exact hjl jl y.1 o1 hm
                | agg js' => exact hjls js' y.1 o1 hm
                | ptr _ _ => simp [unV] at hm
                | fn _ _ => simp [unV] at hm
              · exact ih y.2 (fun q hq => ho q (by simp [hq])) hm
          simp only [J.kv, List.mem_append, List.mem_map] at hm
          rcases hm with ⟨q, _, e⟩ | hm | hm
          · cases e
          · exact hjvs j.slots x.1 os hm p hp
          · have nobox : ∀ {bs : List (Nat × Bool × List JL)} (y : (tysB bs).den), bs = [] → ∀ e, e ∉ unBs bs y := fun y e => by subst e; intro e; simp [unBs]
            exact absurd hm (nobox x.2 ob _)
        cases hl : j.labs.lookup p.1 with
        | none => rw [hl] at this; cases this
        | some mt => exact ⟨mt, 0, J.st_lab hl, by omega⟩
    labs := fun b l hl => by
      obtain ⟨h1, h2⟩ := hl
      cases hl : j.labs.lookup l with
      | none => rw [hl] at h1; cases h1
      | some mt => exact ⟨⟨mt, 0, J.st_lab hl⟩, h2⟩
    muts := fun b l n hl hn => by
      obtain ⟨h1, h2⟩ := hl
      cases hl : j.labs.lookup l with
      | none => rw [hl] at h1; cases h1
      | some mt =>
        rw [J.st_lab hl] at hn
        have := (hlab l mt hl).2
        subst this
        cases hn
    rws := fun r ls ad hv ha => by cases ha
    wins := fun h p lo sz hv => by
      rcases E _ _ (J.st_mem hv (by simp)) with ⟨_, _, e, _⟩ | ⟨_, _, e, _⟩ | e
      · cases e
      · cases e
      · exact e.elim }, fun b l hl => ?_, fun b ad hb => by cases hb⟩
  cases he : j.labs.lookup l with
  | none => have := hl.1; rw [he] at this; cases this
  | some mt => exact (hlab l mt he).1

/-- A law that answers true, called with what a row reads. -/
theorem law_calls {f : Nat} {jin : J} {F : jin.ty.den → Option ((Bool × Unit) × Unit)} (hh : Sig.Holds P ⟨f, 1, jin, ⟨[(0, .leaf (.sc .bool))], [], []⟩, F⟩) (hok : entryOk jin = true) {vs : List Value} (hlen : vs.length = jin.slots.length) {x : jin.ty.den}
    (hr : JVsRep w jin.slots x.1 vs) (hF : F x = some ((true, ()), ())) : Calls P f vs.toArray w fun e w' => e = .returned (.bool true) ∧ RowKit.Below w.heap.size w w' := by
  obtain ⟨c1, c2, c3⟩ := entry_core hok hr
  refine Calls.mono (hh.2 _ w vs.toArray x _ hF (by simpa using hlen) c1 c2 c3) fun e w2 he => ?_
  cases e with
  | panicked _ => exact he.elim
  | outgrown => exact he.elim
  | returned v =>
    obtain ⟨g2, us, h2, rfl⟩ := he
    have hs := h2.slots 0 (.val (.leaf (.sc (.bool true)))) rfl
    have hu : us.getD 0 undef = .bool true := hs
    refine ⟨by simp only [retV, if_true]; rw [hu], ⟨h2.os, h2.tape, h2.output, h2.size, fun k hk => ?_⟩⟩
    have hlab : ∀ c mt, jin.labs.lookup c = some mt → mt = false := fun c mt h => by
      simp only [entryOk, Bool.and_eq_true, List.all_eq_true, Bool.not_eq_true'] at hok
      exact (hok.1.1.1.2 _ (lookup_mem h)).2
    refine (h2.frame k hk ?_).none ?_
    · rintro ⟨c, n, h1, h3, _⟩
      cases he : jin.labs.lookup c with
      | none => rw [he] at h3; cases h3
      | some mt =>
        rw [J.st_lab he, hlab c mt he] at h1
        cases h1
    · rintro o ⟨r, ls, ad, _, ha, _⟩
      cases ha

/-- One argument as a slot of the interface wants it. -/
def argTy (tab : Tab) (t : Nat) : Option Ty := (cellsOf tab t).map fun p => asTy p.1 p.2

def aggOk (P : Program) (t : Nat) (agg : Bool) : Bool := match P.underlying t, agg with
  | some (.struct _), true => true
  | some (.struct _), false => false
  | some (.array _ _), _ => false
  | _, true => false
  | _, false => true

theorem okWide_one {P : Program} {r : Reach} {base t : Nat} {v : Value} (ha : aggOk P t false = true) (h : Value.okWide P w r base t v) (hc : v.cells.toList.length = 1) : v.cells.toList = [v] := by
  unfold aggOk at ha
  unfold Value.okWide at h
  cases v with
  | agg cs =>
    exfalso
    split at h
    · rename_i e; rw [e] at ha; simp at ha
    · rename_i e; rw [e] at ha; simp at ha
    · unfold Cell.okWide at h
      split at h <;> first | (rename_i e; cases e; done) | skip
      unfold Cell.ok at h
      split at h <;> first | exact h | skip
      all_goals (rename_i e; cases e)
  | _ => rfl

theorem okWide_agg {P : Program} {r : Reach} {base t : Nat} {v : Value} (ha : aggOk P t true = true) (h : Value.okWide P w r base t v) : ∃ cs, v = .agg cs := by
  unfold aggOk at ha
  unfold Value.okWide at h
  split at h
  · obtain ⟨cs, e, _⟩ := h; exact ⟨cs, e⟩
  · obtain ⟨cs, e, _⟩ := h; exact ⟨cs, e⟩
  · rename_i h1 h2
    split at ha
    · rename_i e _; exact absurd e (h1 _)
    · cases ha
    · cases ha
    · cases ha
    · rename_i e _ _; cases e

theorem arg_rep {P : Program} (ht : TabOk P tab) {f fuel : Nat} {t : Nat} {r : Reach} {base : Nat} {v : Value} {d : DataW H} {ps : List MemPlace} {tys : List Ty} {agg : Bool} (hd : deep tab f t = true) (hc : cellsOf tab t = some (tys, agg)) (hw : Value.okWide P w r base t v)
    (h : DataW.Trod enc P w 0 (fun _ => true) true t v d ps) : ∃ y : (Ty.of tys).den, DRep w (All w) (Ty.of tys) y v.cells.toList ∧ Fit (Ty.of tys) y := by
  obtain ⟨fuel, h⟩ := h
  exact trod_rep ht f fuel t tys agg _ _ hd hc h

/-- An argument that is one cell. -/
theorem arg_one {P : Program} (ht : TabOk P tab) (f : Nat) {t : Nat} {r : Reach} {base : Nat} {v : Value} {d : DataW H} {ps : List MemPlace} {ty : Ty} (hd : (deep tab f t, cellsOf tab t, aggOk P t false) = (true, some ([ty], false), true)) (hw : Value.okWide P w r base t v)
    (h : DataW.Trod enc P w 0 (fun _ => true) true t v d ps) : ∃ y : ty.den, DRep w (All w) ty y [v] ∧ Fit ty y := by
  simp only [Prod.mk.injEq] at hd
  obtain ⟨y, h1, h2⟩ := arg_rep (fuel := 0) ht hd.1 hd.2.1 hw h
  obtain ⟨c1, c2, e, h3, h4⟩ := h1
  simp only [Ty.of, DRep] at h4
  subst h4
  have hl : c1.length = 1 := by
    have := h3.length
    have hs : ty.size = 1 := by
      have := cellsOf_size ht hd.2.1
      simpa [Ty.of, Ty.size] using this
    omega
  have e1 : v.cells.toList = c1 := by simpa using e
  have := okWide_one hd.2.2 hw (by rw [e1]; exact hl)
  rw [e1] at this
  subst this
  exact ⟨y.1, h3, h2.1⟩

/-- An argument that is a struct. -/
theorem arg_agg {P : Program} (ht : TabOk P tab) (f : Nat) {t : Nat} {r : Reach} {base : Nat} {v : Value} {d : DataW H} {ps : List MemPlace} {tys : List Ty} (hd : (deep tab f t, cellsOf tab t, aggOk P t true) = (true, some (tys, true), true)) (hw : Value.okWide P w r base t v)
    (h : DataW.Trod enc P w 0 (fun _ => true) true t v d ps) : ∃ y : (Ty.of tys).den, (∃ cs, v = .agg cs ∧ DRep w (All w) (Ty.of tys) y cs.toList) ∧ Fit (Ty.of tys) y := by
  simp only [Prod.mk.injEq] at hd
  obtain ⟨y, h1, h2⟩ := arg_rep (fuel := 0) ht hd.1 hd.2.1 hw h
  obtain ⟨cs, rfl⟩ := okWide_agg hd.2.2 hw
  exact ⟨y, ⟨cs, rfl, h1⟩, h2⟩

end Go.Proofs.YtnnnpppodblblaaGreat.Ev
