import PyProof.Rows.All
import Wide.All
import OpenK.AllK
import Wide.FinOn
import HandS.ForMost
import HandS.ForExc
import HandS.Flow
import HandS.Wide
import HandS.IsInst
import HandS.Deep
import HandS.TupAny
import HandS.TupLe
import HandS.Conv
import HandS.ExcInit
import HandS.EndBits
import HandS.TupMul
import KE.SortData
import HandS.More
import HandS.ExcOwn
import HandS.WordsExc
import HandS.Zip
import KE.DataMinMax
import KE.KDictSum
import HandS.Text
import PySem.Challenge.RW_whenmeet_k87_webs_and_walks_written
set_option linter.all false
set_option Elab.async false
set_option maxRecDepth 100000
/-! VA: values as trees, how they stand in the abstract heap, what may change. -/
namespace VL
open PySem L2

/-- a value as a tree. o: whether a list, a dict, an instance is owned (its owner alone sees it, it may be changed) or frozen -/
inductive D where
  | non | bl (b : Bool) | int (i : Int) | str (x : Str) | tup (xs : List D)
  | lst (o : Bool) (xs : List D) | dk (o : Bool) (ks : List Key) (xs : List D) | dt (o : Bool) (ks : List (List Key)) (xs : List D)
  | ins (o : Bool) (C : Str) (ks : List Str) (xs : List D) | dead
  /-- a tuple of the written part; a def as a value -/
  | ktp (xs : List D) | fn (x : Str)
  deriving Inhabited

mutual
/-- does anything owned stand in it -/
def D.own : D → Bool
  | .tup xs => ownL xs
  | .lst o xs => o || ownL xs
  | .dk o _ xs => o || ownL xs
  | .dt o _ xs => o || ownL xs
  | .ins o _ _ xs => o || ownL xs
  | _ => false
def ownL : List D → Bool
  | [] => false
  | d :: ds => d.own || ownL ds
end
mutual
/-- does anything frozen that might have been changed stand in it -/
def D.fz : D → Bool
  | .tup xs => fzL xs
  | .ktp xs => fzL xs
  | .lst o xs => !o || fzL xs
  | .dk o _ xs => !o || fzL xs
  | .dt o _ xs => !o || fzL xs
  | .ins o _ _ xs => !o || fzL xs
  | _ => false
def fzL : List D → Bool
  | [] => false
  | d :: ds => d.fz || fzL ds
end
mutual
def D.frz : D → D
  | .tup xs => .tup (frzL xs)
  | .ktp xs => .ktp (frzL xs)
  | .lst _ xs => .lst false (frzL xs)
  | .dk _ ks xs => .dk false ks (frzL xs)
  | .dt _ ks xs => .dt false ks (frzL xs)
  | .ins _ C ks xs => .ins false C ks (frzL xs)
  | d => d
def frzL : List D → List D
  | [] => []
  | d :: ds => d.frz :: frzL ds
end
def D.isDead : D → Bool
  | .dead => true
  | _ => false

mutual
def D.eqb : D → D → Bool
  | .non, .non => true
  | .bl a, .bl b => decide (a = b)
  | .int a, .int b => decide (a = b)
  | .str a, .str b => decide (a = b)
  | .tup a, .tup b => eqbL a b
  | .ktp a, .ktp b => eqbL a b
  | .fn a, .fn b => decide (a = b)
  | .lst o a, .lst p b => decide (o = p) && eqbL a b
  | .dk o k a, .dk p l b => decide (o = p) && decide (k = l) && eqbL a b
  | .dt o k a, .dt p l b => decide (o = p) && decide (k = l) && eqbL a b
  | .ins o C k a, .ins p C' l b => decide (o = p) && decide (C = C') && decide (k = l) && eqbL a b
  | .dead, .dead => true
  | _, _ => false
def eqbL : List D → List D → Bool
  | [], [] => true
  | a :: as, b :: bs => D.eqb a b && eqbL as bs
  | _, _ => false
end
mutual
theorem D.eq_of_eqb : ∀ a b : D, D.eqb a b = true → a = b
  | .non, b, h => by cases b <;> simp [D.eqb] at h ⊢
  | .bl _, b, h => by cases b <;> simp [D.eqb] at h ⊢; exact h
  | .int _, b, h => by cases b <;> simp [D.eqb] at h ⊢; exact h
  | .str _, b, h => by cases b <;> simp [D.eqb] at h ⊢; exact h
  | .tup xs, b, h => by
    cases b <;> simp [D.eqb] at h ⊢
    exact eq_of_eqbL _ _ h
  | .lst o xs, b, h => by
    cases b <;> simp [D.eqb] at h ⊢
    exact ⟨h.1, eq_of_eqbL _ _ h.2⟩
  | .dk o k xs, b, h => by
    cases b <;> simp [D.eqb] at h ⊢
    exact ⟨h.1.1, h.1.2, eq_of_eqbL _ _ h.2⟩
  | .dt o k xs, b, h => by
    cases b <;> simp [D.eqb] at h ⊢
    exact ⟨h.1.1, h.1.2, eq_of_eqbL _ _ h.2⟩
  | .ins o C k xs, b, h => by
    cases b <;> simp [D.eqb] at h ⊢
    exact ⟨h.1.1.1, h.1.1.2, h.1.2, eq_of_eqbL _ _ h.2⟩
  | .dead, b, h => by cases b <;> simp [D.eqb] at h ⊢
  | .fn _, b, h => by cases b <;> simp [D.eqb] at h ⊢; exact h
  | .ktp xs, b, h => by
    cases b <;> simp [D.eqb] at h ⊢
    exact eq_of_eqbL _ _ h
theorem eq_of_eqbL : ∀ a b : List D, eqbL a b = true → a = b
  | [], b, h => by cases b <;> simp [eqbL] at h ⊢
  | x :: xs, b, h => by
    cases b with
    | nil => simp [eqbL] at h
    | cons y ys =>
      simp [eqbL] at h
      rw [D.eq_of_eqb _ _ h.1, eq_of_eqbL _ _ h.2]
end
mutual
theorem D.eqb_refl : ∀ a : D, D.eqb a a = true
  | .non | .bl _ | .int _ | .str _ | .dead | .fn _ => by simp [D.eqb]
  | .tup xs | .ktp xs | .lst _ xs | .dk _ _ xs | .dt _ _ xs | .ins _ _ _ xs => by simp [D.eqb, eqbL_refl xs]
theorem eqbL_refl : ∀ a : List D, eqbL a a = true
  | [] => rfl
  | x :: xs => by simp [eqbL, D.eqb_refl x, eqbL_refl xs]
end

/-- the list at a stands in the written part -/
abbrev KL (K : PySem.W.Frag) (a : Addr) (xs : List V) : Prop := SqL K (fun _ => none) a xs
theorem KL.sq {K : PySem.W.Frag} {a : Addr} {xs : List V} {H : Hp} (h : KL K a xs) : SqL K H a xs := by
  rcases h with (h | ⟨o, h⟩) | h
  · cases h
  · cases h
  · exact .inr h

/-- keys are unlike, and as many as values -/
structure KOk {κ : Type} (ks : List κ) (vs : List V) : Prop where
  len : ks.length = vs.length
  nd : ks.Nodup
section
variable (K : PySem.W.Frag) (mg : Str → Option Value)
mutual
/-- the value v stands for the tree; F: the places of what is owned in it -/
def Rep (Z : Addr → Prop) (H : Hp) : D → V → List Addr → Prop
  | .non, v, F => v = .non ∧ F = []
  | .bl b, v, F => v = .bl b ∧ F = []
  | .int i, v, F => v = .int i ∧ F = []
  | .str x, v, F => v = .str x ∧ F = []
  | .tup xs, v, F => ∃ a vs, v = .ref a ∧ H a = some (.tup vs) ∧ Reps Z H xs vs F
  | .ktp xs, v, F => ∃ a vs, v = .ref a ∧ SqT K (fun _ => none) a vs ∧ Reps Z H xs vs [] ∧ F = []
  | .fn x, v, F => (∃ f, mg x = some (.ref f) ∧ v = .ref f) ∧ F = []
  | .lst true xs, v, F => ∃ a vs G, v = .ref a ∧ H a = some (.lst vs) ∧ Reps Z H xs vs G ∧ F = a :: G
  | .lst false xs, v, F => ∃ a vs, v = .ref a ∧ SqL K H a vs ∧ (Z a ∨ KL K a vs) ∧ Reps Z H xs vs [] ∧ F = []
  | .dk true ks xs, v, F => ∃ a vs G, v = .ref a ∧ H a = some (.dK (ks.zip vs)) ∧ KOk ks vs ∧ Reps Z H xs vs G ∧ F = a :: G
  | .dk false ks xs, v, F => ∃ a vs, v = .ref a ∧ Rd H a (.dK (ks.zip vs)) ∧ KOk ks vs ∧ Z a ∧ Reps Z H xs vs [] ∧ F = []
  | .dt true ks xs, v, F => ∃ a vs G, v = .ref a ∧ H a = some (.dT (ks.zip vs)) ∧ KOk ks vs ∧ Reps Z H xs vs G ∧ F = a :: G
  | .dt false ks xs, v, F => ∃ a vs, v = .ref a ∧ Rd H a (.dT (ks.zip vs)) ∧ KOk ks vs ∧ Z a ∧ Reps Z H xs vs [] ∧ F = []
  | .ins true C ks xs, v, F => ∃ a vs G c dx, v = .ref a ∧ mg C = some (.ref c) ∧ H a = some (.ins c dx (ks.zip vs)) ∧ ks.length = vs.length ∧ Reps Z H xs vs G ∧ F = a :: G
  | .ins false C ks xs, v, F => ∃ a vs c dx, v = .ref a ∧ mg C = some (.ref c) ∧ H a = some (.ins c dx (ks.zip vs)) ∧ ks.length = vs.length ∧ Z a ∧ Reps Z H xs vs [] ∧ F = []
  | .dead, _, _ => False
def Reps (Z : Addr → Prop) (H : Hp) : List D → List V → List Addr → Prop
  | [], vs, F => vs = [] ∧ F = []
  | d :: ds, vs, F => ∃ v r F1 F2, vs = v :: r ∧ Rep Z H d v F1 ∧ Reps Z H ds r F2 ∧ F = F1 ++ F2
end
end

section
variable {K : PySem.W.Frag} {mg : Str → Option Value} {Z Z' : Addr → Prop} {H H' : Hp}

theorem mut_lst {xs : List V} : Mut (some (HO.lst xs)) := trivial
theorem not_mut_tup {xs : List V} : ¬ Mut (some (HO.tup xs)) := fun h => h
theorem not_mut_frz {o : Obj} {u : HO} : ¬ Mut (some (HO.frz o u)) := fun h => h

/-- what stands outside X is as it was -/
def Kp (X : List Addr) (H H' : Hp) : Prop := ∀ b o, H b = some o → b ∉ X → H' b = some o

theorem SqT.keep {X : List Addr} (kp : Kp X H H') (hx : ∀ b ∈ X, Mut (H b)) {a : Addr} {vs : List V} (h : SqT K H a vs) : SqT K H' a vs := by
  rcases h with (h | ⟨o, h⟩) | h
  · exact .inl (.inl (kp _ _ h fun m => by have q := hx _ m; rw [h] at q; exact q))
  · exact .inl (.inr ⟨o, kp _ _ h fun m => by have q := hx _ m; rw [h] at q; exact q⟩)
  · exact .inr h
theorem SqL.keep {X : List Addr} (kp : Kp X H H') {a : Addr} (hx : a ∉ X) {vs : List V} (h : SqL K H a vs) : SqL K H' a vs := by
  rcases h with (h | ⟨o, h⟩) | h
  · exact .inl (.inl (kp _ _ h hx))
  · exact .inl (.inr ⟨o, kp _ _ h hx⟩)
  · exact .inr h
theorem Rd.keep {X : List Addr} (kp : Kp X H H') {a : Addr} (hx : a ∉ X) {u : HO} (h : Rd H a u) : Rd H' a u := by
  rcases h with h | ⟨o, h⟩
  · exact .inl (kp _ _ h hx)
  · exact .inr ⟨o, kp _ _ h hx⟩

mutual
/-- a tree stands on where what changes is not its own, nor frozen -/
theorem Rep.frame {X : List Addr} (kp : Kp X H H') (hx : ∀ b ∈ X, ¬ Z b ∧ Mut (H b)) (hz : ∀ b, Z b → Z' b) : ∀ (d : D) (v : V) (F : List Addr), Rep K mg Z H d v F → (∀ b ∈ F, b ∉ X) → Rep K mg Z' H' d v F
  | .non, _, _, h, _ => h
  | .bl _, _, _, h, _ => h
  | .int _, _, _, h, _ => h
  | .str _, _, _, h, _ => h
  | .tup xs, v, F, h, hf => by
    obtain ⟨a, vs, e, hq, hr⟩ := h
    exact ⟨a, vs, e, kp _ _ hq (fun m => by have q := (hx a m).2; rw [hq] at q; exact q), Reps.frame kp hx hz xs vs F hr hf⟩
  | .ktp xs, v, F, h, hf => by
    obtain ⟨a, vs, e, hq, hr, rfl⟩ := h
    exact ⟨a, vs, e, hq, Reps.frame kp hx hz xs vs [] hr (fun b m => by cases m), rfl⟩
  | .fn _, _, _, h, _ => h
  | .lst true xs, v, F, h, hf => by
    obtain ⟨a, vs, G, e, hq, hr, rfl⟩ := h
    exact ⟨a, vs, G, e, kp _ _ hq (hf a List.mem_cons_self), Reps.frame kp hx hz xs vs G hr (fun b m => hf b (List.mem_cons_of_mem _ m)), rfl⟩
  | .lst false xs, v, F, h, hf => by
    obtain ⟨a, vs, e, hq, hza, hr, rfl⟩ := h
    refine ⟨a, vs, e, ?_, hza.imp (hz a) id, Reps.frame kp hx hz xs vs [] hr (fun b m => by cases m), rfl⟩
    rcases hza with hza | hk
    · exact SqL.keep kp (fun m => (hx a m).1 hza) hq
    · exact hk.sq
  | .dk true ks xs, v, F, h, hf => by
    obtain ⟨a, vs, G, e, hq, hl, hr, rfl⟩ := h
    exact ⟨a, vs, G, e, kp _ _ hq (hf a List.mem_cons_self), hl, Reps.frame kp hx hz xs vs G hr (fun b m => hf b (List.mem_cons_of_mem _ m)), rfl⟩
  | .dk false ks xs, v, F, h, hf => by
    obtain ⟨a, vs, e, hq, hl, hza, hr, rfl⟩ := h
    exact ⟨a, vs, e, Rd.keep kp (fun m => (hx a m).1 hza) hq, hl, hz a hza, Reps.frame kp hx hz xs vs [] hr (fun b m => by cases m), rfl⟩
  | .dt true ks xs, v, F, h, hf => by
    obtain ⟨a, vs, G, e, hq, hl, hr, rfl⟩ := h
    exact ⟨a, vs, G, e, kp _ _ hq (hf a List.mem_cons_self), hl, Reps.frame kp hx hz xs vs G hr (fun b m => hf b (List.mem_cons_of_mem _ m)), rfl⟩
  | .dt false ks xs, v, F, h, hf => by
    obtain ⟨a, vs, e, hq, hl, hza, hr, rfl⟩ := h
    exact ⟨a, vs, e, Rd.keep kp (fun m => (hx a m).1 hza) hq, hl, hz a hza, Reps.frame kp hx hz xs vs [] hr (fun b m => by cases m), rfl⟩
  | .ins true C ks xs, v, F, h, hf => by
    obtain ⟨a, vs, G, c, dx, e, hm, hq, hl, hr, rfl⟩ := h
    exact ⟨a, vs, G, c, dx, e, hm, kp _ _ hq (hf a List.mem_cons_self), hl, Reps.frame kp hx hz xs vs G hr (fun b m => hf b (List.mem_cons_of_mem _ m)), rfl⟩
  | .ins false C ks xs, v, F, h, hf => by
    obtain ⟨a, vs, c, dx, e, hm, hq, hl, hza, hr, rfl⟩ := h
    exact ⟨a, vs, c, dx, e, hm, kp _ _ hq (fun m => (hx a m).1 hza), hl, hz a hza, Reps.frame kp hx hz xs vs [] hr (fun b m => by cases m), rfl⟩
  | .dead, _, _, h, _ => h
theorem Reps.frame {X : List Addr} (kp : Kp X H H') (hx : ∀ b ∈ X, ¬ Z b ∧ Mut (H b)) (hz : ∀ b, Z b → Z' b) : ∀ (ds : List D) (vs : List V) (F : List Addr), Reps K mg Z H ds vs F → (∀ b ∈ F, b ∉ X) → Reps K mg Z' H' ds vs F
  | [], _, _, h, _ => h
  | d :: ds, vs, F, h, hf => by
    obtain ⟨v, r, F1, F2, e, h1, h2, rfl⟩ := h
    exact ⟨v, r, F1, F2, e, Rep.frame kp hx hz d v F1 h1 (fun b m => hf b (List.mem_append_left _ m)), Reps.frame kp hx hz ds r F2 h2 (fun b m => hf b (List.mem_append_right _ m)), rfl⟩
end

mutual
/-- nothing owned: no places -/
theorem Rep.noown : ∀ (d : D) (v : V) (F : List Addr), Rep K mg Z H d v F → d.own = false → F = []
  | .non, _, _, h, _ => h.2
  | .bl _, _, _, h, _ => h.2
  | .int _, _, _, h, _ => h.2
  | .str _, _, _, h, _ => h.2
  | .tup xs, v, F, h, o => by
    obtain ⟨a, vs, e, hq, hr⟩ := h
    exact Reps.noown xs vs F hr (by simpa [D.own] using o)
  | .ktp xs, v, F, h, _ => by obtain ⟨a, vs, _, _, _, e⟩ := h; exact e
  | .fn _, _, _, h, _ => h.2
  | .lst true xs, _, _, _, o => by simp [D.own] at o
  | .lst false xs, v, F, h, _ => by obtain ⟨a, vs, _, _, _, _, e⟩ := h; exact e
  | .dk true ks xs, _, _, _, o => by simp [D.own] at o
  | .dk false ks xs, v, F, h, _ => by obtain ⟨a, vs, _, _, _, _, _, e⟩ := h; exact e
  | .dt true ks xs, _, _, _, o => by simp [D.own] at o
  | .dt false ks xs, v, F, h, _ => by obtain ⟨a, vs, _, _, _, _, _, e⟩ := h; exact e
  | .ins true C ks xs, _, _, _, o => by simp [D.own] at o
  | .ins false C ks xs, v, F, h, _ => by obtain ⟨a, vs, c, dx, _, _, _, _, _, _, e⟩ := h; exact e
  | .dead, _, _, h, _ => h.elim
theorem Reps.noown : ∀ (ds : List D) (vs : List V) (F : List Addr), Reps K mg Z H ds vs F → ownL ds = false → F = []
  | [], _, _, h, _ => h.2
  | d :: ds, vs, F, h, o => by
    obtain ⟨v, r, F1, F2, e, h1, h2, rfl⟩ := h
    simp [ownL] at o
    rw [Rep.noown d v F1 h1 o.1, Reps.noown ds r F2 h2 o.2]
    rfl
end

mutual
/-- nothing frozen: the frozen part does not matter -/
theorem Rep.clean : ∀ (d : D) (v : V) (F : List Addr), Rep K mg Z H d v F → d.fz = false → Rep K mg Z' H d v F
  | .non, _, _, h, _ => h
  | .bl _, _, _, h, _ => h
  | .int _, _, _, h, _ => h
  | .str _, _, _, h, _ => h
  | .tup xs, v, F, h, o => by
    obtain ⟨a, vs, e, hq, hr⟩ := h
    exact ⟨a, vs, e, hq, Reps.clean xs vs F hr (by simpa [D.fz] using o)⟩
  | .ktp xs, v, F, h, o => by
    obtain ⟨a, vs, e, hq, hr, rfl⟩ := h
    exact ⟨a, vs, e, hq, Reps.clean xs vs [] hr (by simpa [D.fz] using o), rfl⟩
  | .fn _, _, _, h, _ => h
  | .lst true xs, v, F, h, o => by
    obtain ⟨a, vs, G, e, hq, hr, rfl⟩ := h
    exact ⟨a, vs, G, e, hq, Reps.clean xs vs G hr (by simpa [D.fz] using o), rfl⟩
  | .lst false xs, _, _, _, o => by simp [D.fz] at o
  | .dk true ks xs, v, F, h, o => by
    obtain ⟨a, vs, G, e, hq, hl, hr, rfl⟩ := h
    exact ⟨a, vs, G, e, hq, hl, Reps.clean xs vs G hr (by simpa [D.fz] using o), rfl⟩
  | .dk false ks xs, _, _, _, o => by simp [D.fz] at o
  | .dt true ks xs, v, F, h, o => by
    obtain ⟨a, vs, G, e, hq, hl, hr, rfl⟩ := h
    exact ⟨a, vs, G, e, hq, hl, Reps.clean xs vs G hr (by simpa [D.fz] using o), rfl⟩
  | .dt false ks xs, _, _, _, o => by simp [D.fz] at o
  | .ins true C ks xs, v, F, h, o => by
    obtain ⟨a, vs, G, c, dx, e, hm, hq, hl, hr, rfl⟩ := h
    exact ⟨a, vs, G, c, dx, e, hm, hq, hl, Reps.clean xs vs G hr (by simpa [D.fz] using o), rfl⟩
  | .ins false C ks xs, _, _, _, o => by simp [D.fz] at o
  | .dead, _, _, h, _ => h
theorem Reps.clean : ∀ (ds : List D) (vs : List V) (F : List Addr), Reps K mg Z H ds vs F → fzL ds = false → Reps K mg Z' H ds vs F
  | [], _, _, h, _ => h
  | d :: ds, vs, F, h, o => by
    obtain ⟨v, r, F1, F2, e, h1, h2, rfl⟩ := h
    simp [fzL] at o
    exact ⟨v, r, F1, F2, e, Rep.clean d v F1 h1 o.1, Reps.clean ds r F2 h2 o.2, rfl⟩
end

mutual
/-- what is owned may be frozen -/
theorem Rep.frz (hz : ∀ b, Z b → Z' b) : ∀ (d : D) (v : V) (F : List Addr), Rep K mg Z H d v F → (∀ b ∈ F, Z' b) → Rep K mg Z' H d.frz v []
  | .non, _, _, h, _ => ⟨h.1, rfl⟩
  | .bl _, _, _, h, _ => ⟨h.1, rfl⟩
  | .int _, _, _, h, _ => ⟨h.1, rfl⟩
  | .str _, _, _, h, _ => ⟨h.1, rfl⟩
  | .tup xs, v, F, h, hf => by
    obtain ⟨a, vs, e, hq, hr⟩ := h
    exact ⟨a, vs, e, hq, Reps.frz hz xs vs F hr hf⟩
  | .ktp xs, v, F, h, hf => by
    obtain ⟨a, vs, e, hq, hr, rfl⟩ := h
    exact ⟨a, vs, e, hq, Reps.frz hz xs vs [] hr (fun b m => by cases m), rfl⟩
  | .fn _, _, _, h, _ => ⟨h.1, rfl⟩
  | .lst true xs, v, F, h, hf => by
    obtain ⟨a, vs, G, e, hq, hr, rfl⟩ := h
    exact ⟨a, vs, e, SqL.of hq, .inl (hf a List.mem_cons_self), Reps.frz hz xs vs G hr (fun b m => hf b (List.mem_cons_of_mem _ m)), rfl⟩
  | .lst false xs, v, F, h, hf => by
    obtain ⟨a, vs, e, hq, hza, hr, rfl⟩ := h
    exact ⟨a, vs, e, hq, hza.imp (hz a) id, Reps.frz hz xs vs [] hr (fun b m => by cases m), rfl⟩
  | .dk true ks xs, v, F, h, hf => by
    obtain ⟨a, vs, G, e, hq, hl, hr, rfl⟩ := h
    exact ⟨a, vs, e, .inl hq, hl, hf a List.mem_cons_self, Reps.frz hz xs vs G hr (fun b m => hf b (List.mem_cons_of_mem _ m)), rfl⟩
  | .dk false ks xs, v, F, h, hf => by
    obtain ⟨a, vs, e, hq, hl, hza, hr, rfl⟩ := h
    exact ⟨a, vs, e, hq, hl, hz a hza, Reps.frz hz xs vs [] hr (fun b m => by cases m), rfl⟩
  | .dt true ks xs, v, F, h, hf => by
    obtain ⟨a, vs, G, e, hq, hl, hr, rfl⟩ := h
    exact ⟨a, vs, e, .inl hq, hl, hf a List.mem_cons_self, Reps.frz hz xs vs G hr (fun b m => hf b (List.mem_cons_of_mem _ m)), rfl⟩
  | .dt false ks xs, v, F, h, hf => by
    obtain ⟨a, vs, e, hq, hl, hza, hr, rfl⟩ := h
    exact ⟨a, vs, e, hq, hl, hz a hza, Reps.frz hz xs vs [] hr (fun b m => by cases m), rfl⟩
  | .ins true C ks xs, v, F, h, hf => by
    obtain ⟨a, vs, G, c, dx, e, hm, hq, hl, hr, rfl⟩ := h
    exact ⟨a, vs, c, dx, e, hm, hq, hl, hf a List.mem_cons_self, Reps.frz hz xs vs G hr (fun b m => hf b (List.mem_cons_of_mem _ m)), rfl⟩
  | .ins false C ks xs, v, F, h, hf => by
    obtain ⟨a, vs, c, dx, e, hm, hq, hl, hza, hr, rfl⟩ := h
    exact ⟨a, vs, c, dx, e, hm, hq, hl, hz a hza, Reps.frz hz xs vs [] hr (fun b m => by cases m), rfl⟩
  | .dead, _, _, h, _ => h.elim
theorem Reps.frz (hz : ∀ b, Z b → Z' b) : ∀ (ds : List D) (vs : List V) (F : List Addr), Reps K mg Z H ds vs F → (∀ b ∈ F, Z' b) → Reps K mg Z' H (frzL ds) vs []
  | [], _, _, h, _ => ⟨h.1, rfl⟩
  | d :: ds, vs, F, h, hf => by
    obtain ⟨v, r, F1, F2, e, h1, h2, rfl⟩ := h
    exact ⟨v, r, [], [], e, Rep.frz hz d v F1 h1 (fun b m => hf b (List.mem_append_left _ m)), Reps.frz hz ds r F2 h2 (fun b m => hf b (List.mem_append_right _ m)), rfl⟩
end

theorem Reps.length : ∀ {ds : List D} {vs : List V} {F : List Addr}, Reps K mg Z H ds vs F → vs.length = ds.length
  | [], _, _, h => by rw [h.1]; rfl
  | d :: ds, vs, F, h => by
    obtain ⟨v, r, F1, F2, rfl, h1, h2, rfl⟩ := h
    simp [Reps.length h2]
theorem Reps.get : ∀ {ds : List D} {vs : List V} {F : List Addr} {i : Nat} {d : D}, Reps K mg Z H ds vs F → ds[i]? = some d → ∃ v F1, vs[i]? = some v ∧ Rep K mg Z H d v F1 ∧ ∀ a ∈ F1, a ∈ F
  | [], _, _, _, _, _, e => by simp at e
  | d :: ds, vs, F, 0, x, h, e => by
    obtain ⟨v, r, F1, F2, rfl, h1, h2, rfl⟩ := h
    simp at e; subst e
    exact ⟨v, F1, rfl, h1, fun a m => List.mem_append_left _ m⟩
  | d :: ds, vs, F, i + 1, x, h, e => by
    obtain ⟨v, r, F1, F2, rfl, h1, h2, rfl⟩ := h
    obtain ⟨w, G, e1, e2, e3⟩ := Reps.get (i := i) h2 (by simpa using e)
    exact ⟨w, G, by simpa using e1, e2, fun a m => List.mem_append_right _ (e3 a m)⟩
theorem Reps.append : ∀ {ds es : List D} {vs ws : List V} {F G : List Addr}, Reps K mg Z H ds vs F → Reps K mg Z H es ws G → Reps K mg Z H (ds ++ es) (vs ++ ws) (F ++ G)
  | [], _, _, _, _, _, h, h' => by obtain ⟨rfl, rfl⟩ := h; exact h'
  | d :: ds, es, vs, ws, F, G, h, h' => by
    obtain ⟨v, r, F1, F2, rfl, h1, h2, rfl⟩ := h
    exact ⟨v, r ++ ws, F1, F2 ++ G, rfl, h1, Reps.append h2 h', by rw [List.append_assoc]⟩
theorem Reps.one {d : D} {v : V} {F : List Addr} (h : Rep K mg Z H d v F) : Reps K mg Z H [d] [v] F := ⟨v, [], F, [], rfl, h, ⟨rfl, rfl⟩, by simp⟩
theorem Reps.nil : Reps K mg Z H [] [] [] := ⟨rfl, rfl⟩
end

/-! ### what is well -/
structure Wd (Z : Addr → Prop) (H : Hp) (F : List Addr) : Prop where
  nd : F.Nodup
  mu : ∀ a ∈ F, ¬ Z a ∧ Mut (H a)
  zs : ∀ a, Z a → H a ≠ none

/-- from a state to a later one: F was owned (may have changed), F' is owned now -/
structure Step (Z Z' : Addr → Prop) (H H' : Hp) (F F' : List Addr) : Prop where
  zz : ∀ a, Z a → Z' a
  kp : Kp F H H'
  wd : Wd Z' H' F'
  ff : ∀ a ∈ F', a ∈ F ∨ H a = none
  zn : ∀ a, Z' a → Z a ∨ a ∈ F ∨ H a = none

section
variable {K : PySem.W.Frag} {mg : Str → Option Value} {Z Z' Z1 Z2 : Addr → Prop} {H H' H1 H2 : Hp} {F F' A B C : List Addr}
theorem Wd.left (h : Wd Z H (A ++ B)) : Wd Z H A := ⟨(List.nodup_append.mp h.nd).1, fun a m => h.mu a (List.mem_append_left _ m), h.zs⟩
theorem Wd.right (h : Wd Z H (A ++ B)) : Wd Z H B := ⟨(List.nodup_append.mp h.nd).2.1, fun a m => h.mu a (List.mem_append_right _ m), h.zs⟩
theorem Wd.dis (h : Wd Z H (A ++ B)) : ∀ a ∈ A, a ∉ B := fun a m n => (List.nodup_append.mp h.nd).2.2 a m a n rfl
theorem Wd.none (h : Wd Z H F) {p : Addr} (hp : H p = Option.none) : ¬ Z p ∧ p ∉ F := ⟨fun z => h.zs p z hp, fun m => by have q := (h.mu p m).2; rw [hp] at q; exact q⟩
theorem Wd.perm (h : Wd Z H A) (p : A.Perm B) : Wd Z H B := ⟨p.nodup_iff.mp h.nd, fun a m => h.mu a (p.mem_iff.mpr m), h.zs⟩
theorem Wd.sub (h : Wd Z H A) (nd : B.Nodup) (s : ∀ a ∈ B, a ∈ A) : Wd Z H B := ⟨nd, fun a m => h.mu a (s a m), h.zs⟩
theorem Step.refl (h : Wd Z H F) : Step Z Z H H F F := ⟨fun _ z => z, fun _ _ e _ => e, h, fun _ m => .inl m, fun _ z => .inl z⟩
theorem Kp.none {X : List Addr} (k : Kp X H H') {p : Addr} (hp : H' p = Option.none) (hx : p ∉ X) : H p = Option.none := by
  cases e : H p with
  | none => rfl
  | some o => rw [k p o e hx] at hp; cases hp
/-- a step within a larger ownership: A stands beside -/
theorem Step.trans (s : Step Z Z1 H H1 F B) (t : Step Z1 Z2 H1 H2 B C) : Step Z Z2 H H2 F C := by
  have old : ∀ a, a ∉ F → H a ≠ Option.none → a ∉ B := fun a nf hn m => by
    rcases s.ff a m with h | h
    · exact nf h
    · exact hn h
  refine ⟨fun a z => t.zz a (s.zz a z), fun b o e nf => t.kp b o (s.kp b o e nf) (old b nf (by rw [e]; simp)), t.wd, fun a m => ?_, fun a z => ?_⟩
  · rcases t.ff a m with h | h
    · exact s.ff a h
    · by_cases hf : a ∈ F
      · exact .inl hf
      · exact .inr (s.kp.none h hf)
  · rcases t.zn a z with h | h | h
    · exact s.zn a h
    · exact .inr (s.ff a h)
    · by_cases hf : a ∈ F
      · exact .inr (.inl hf)
      · exact .inr (.inr (s.kp.none h hf))
/-- a step with A beside: A is as it was -/
theorem Step.beside (s : Step Z Z1 H H1 B C) (w : Wd Z H (A ++ B)) : Step Z Z1 H H1 (A ++ B) (A ++ C) := by
  have nA : ∀ a ∈ A, a ∉ C := fun a m n => by
    rcases s.ff a n with h | h
    · exact w.dis a m h
    · have q := (w.mu a (List.mem_append_left _ m)).2; rw [h] at q; exact q
  refine ⟨s.zz, fun b o e nf => s.kp b o e fun m => nf (List.mem_append_right _ m), ⟨List.nodup_append.mpr ⟨w.left.nd, s.wd.nd, fun a m b n e => nA a m (e ▸ n)⟩, fun a m => ?_, s.wd.zs⟩, fun a m => ?_, fun a z => ?_⟩
  · rcases List.mem_append.mp m with h | h
    · obtain ⟨nz, mu⟩ := w.mu a (List.mem_append_left _ h)
      refine ⟨fun z => ?_, ?_⟩
      · rcases s.zn a z with z | z | z
        · exact nz z
        · exact w.dis a h z
        · rw [z] at mu; exact mu
      · cases e : H a with
        | none => rw [e] at mu; exact mu.elim
        | some o => rw [s.kp a o e (w.dis a h), ← e]; exact mu
    · exact s.wd.mu a h
  · rcases List.mem_append.mp m with h | h
    · exact .inl (List.mem_append_left _ h)
    · rcases s.ff a h with h | h
      · exact .inl (List.mem_append_right _ h)
      · exact .inr h
  · rcases s.zn a z with h | h | h
    · exact .inl h
    · exact .inr (.inl (List.mem_append_right _ h))
    · exact .inr (.inr h)
theorem Step.seq (s : Step Z Z1 H H1 F (A ++ B)) (t : Step Z1 Z2 H1 H2 B C) : Step Z Z2 H H2 F (A ++ C) := s.trans (t.beside s.wd)
/-- what stands beside a step is represented on -/
theorem Step.rep (t : Step Z1 Z2 H1 H2 B C) (w : Wd Z1 H1 (A ++ B)) {d : D} {v : V} (r : Rep K mg Z1 H1 d v A) : Rep K mg Z2 H2 d v A :=
  Rep.frame t.kp (fun b m => w.mu b (List.mem_append_right _ m)) t.zz d v A r (fun b m => w.dis b m)
theorem Step.reps (t : Step Z1 Z2 H1 H2 B C) (w : Wd Z1 H1 (A ++ B)) {ds : List D} {vs : List V} (r : Reps K mg Z1 H1 ds vs A) : Reps K mg Z2 H2 ds vs A :=
  Reps.frame t.kp (fun b m => w.mu b (List.mem_append_right _ m)) t.zz ds vs A r (fun b m => w.dis b m)
theorem Step.rep0 (t : Step Z1 Z2 H1 H2 B C) (w : Wd Z1 H1 B) {d : D} {v : V} (r : Rep K mg Z1 H1 d v []) : Rep K mg Z2 H2 d v [] :=
  Rep.frame t.kp (fun b m => w.mu b m) t.zz d v [] r (fun b m => by cases m)
/-- owned places are given up -/
theorem Step.drop (s : Step Z Z1 H H1 F (A ++ B)) : Step Z Z1 H H1 F B := ⟨s.zz, s.kp, s.wd.right, fun a m => s.ff a (List.mem_append_right _ m), s.zn⟩
theorem Step.sub (s : Step Z Z1 H H1 F A) (nd : B.Nodup) (h : ∀ a ∈ B, a ∈ A) : Step Z Z1 H H1 F B := ⟨s.zz, s.kp, s.wd.sub nd h, fun a m => s.ff a (h a m), s.zn⟩
theorem Step.perm (s : Step Z Z1 H H1 F A) (p : A.Perm B) : Step Z Z1 H H1 F B := ⟨s.zz, s.kp, s.wd.perm p, fun a m => s.ff a (p.mem_iff.mpr m), s.zn⟩
/-- owned places are frozen -/
theorem Step.freeze (s : Step Z Z1 H H1 F (A ++ B)) : Step Z (fun a => Z1 a ∨ a ∈ A) H H1 F B := by
  refine ⟨fun a z => .inl (s.zz a z), s.kp, ⟨s.wd.right.nd, fun a m => ⟨?_, (s.wd.mu a (List.mem_append_right _ m)).2⟩, ?_⟩, fun a m => s.ff a (List.mem_append_right _ m), ?_⟩
  · rintro (z | z)
    · exact (s.wd.mu a (List.mem_append_right _ m)).1 z
    · exact s.wd.dis a z m
  · rintro a (z | z)
    · exact s.wd.zs a z
    · have q := (s.wd.mu a (List.mem_append_left _ z)).2
      intro e; rw [e] at q; exact q
  · rintro a (z | z)
    · exact s.zn a z
    · exact .inr (s.ff a (List.mem_append_left _ z))
/-- a new object, owned -/
theorem Step.new (s : Step Z Z1 H H1 F A) {p : Addr} {o : HO} (hp : H1 p = Option.none) (mu : Mut (some o)) : Step Z Z1 H (upd H1 p o) F (p :: A) := by
  obtain ⟨nz, na⟩ := s.wd.none hp
  have ne : ∀ a ∈ A, a ≠ p := fun a m e => na (e ▸ m)
  refine ⟨s.zz, fun b o' e nf => ?_, ⟨List.nodup_cons.mpr ⟨na, s.wd.nd⟩, fun a m => ?_, fun a z => ?_⟩, fun a m => ?_, s.zn⟩
  · have q := s.kp b o' e nf
    rw [upd_ne (ne_of_none q hp)]; exact q
  · rcases List.mem_cons.mp m with e | h
    · subst e; exact ⟨nz, by rw [upd_same]; exact mu⟩
    · rw [upd_ne (ne a h)]; exact s.wd.mu a h
  · by_cases e : a = p
    · subst e; rw [upd_same]; simp
    · rw [upd_ne e]; exact s.wd.zs a z
  · rcases List.mem_cons.mp m with e | h
    · subst e
      by_cases hf : a ∈ F
      · exact .inl hf
      · exact .inr (s.kp.none hp hf)
    · exact s.ff a h
/-- a new object that never changes -/
theorem Step.put (s : Step Z Z1 H H1 F A) {p : Addr} {o : HO} (hp : H1 p = Option.none) : Step Z Z1 H (upd H1 p o) F A := by
  obtain ⟨nz, na⟩ := s.wd.none hp
  have ne : ∀ a ∈ A, a ≠ p := fun a m e => na (e ▸ m)
  refine ⟨s.zz, fun b o' e nf => ?_, ⟨s.wd.nd, fun a m => ?_, fun a z => ?_⟩, s.ff, s.zn⟩
  · have q := s.kp b o' e nf
    rw [upd_ne (ne_of_none q hp)]; exact q
  · rw [upd_ne (ne a m)]; exact s.wd.mu a m
  · by_cases e : a = p
    · subst e; rw [upd_same]; simp
    · rw [upd_ne e]; exact s.wd.zs a z
/-- an owned object is written -/
theorem Step.write (s : Step Z Z1 H H1 F A) {p : Addr} {o : HO} (hp : p ∈ A) (hf : p ∈ F ∨ H p = Option.none) (mu : Mut (some o)) : Step Z Z1 H (upd H1 p o) F A := by
  refine ⟨s.zz, fun b o' e nf => ?_, ⟨s.wd.nd, fun a m => ?_, fun a z => ?_⟩, s.ff, s.zn⟩
  · have ne : b ≠ p := fun q => by
      subst q
      rcases hf with h | h
      · exact nf h
      · rw [h] at e; cases e
    rw [upd_ne ne]; exact s.kp b o' e nf
  · by_cases e : a = p
    · subst e; exact ⟨(s.wd.mu a m).1, by rw [upd_same]; exact mu⟩
    · rw [upd_ne e]; exact s.wd.mu a m
  · by_cases e : a = p
    · subst e; rw [upd_same]; simp
    · rw [upd_ne e]; exact s.wd.zs a z
theorem Kp.new {p : Addr} {o : HO} (hp : H p = Option.none) : Kp [] H (upd H p o) := fun b o' e _ => by rw [upd_ne (ne_of_none e hp)]; exact e
/-- trees stand on behind a new object -/
theorem Rep.new {p : Addr} {o : HO} (hp : H p = Option.none) {d : D} {v : V} (r : Rep K mg Z H d v F) : Rep K mg Z (upd H p o) d v F := Rep.frame (Kp.new hp) (fun b m => by cases m) (fun _ z => z) d v F r (fun b _ m => by cases m)
theorem Reps.new {p : Addr} {o : HO} (hp : H p = Option.none) {ds : List D} {vs : List V} (r : Reps K mg Z H ds vs F) : Reps K mg Z (upd H p o) ds vs F := Reps.frame (Kp.new hp) (fun b m => by cases m) (fun _ z => z) ds vs F r (fun b _ m => by cases m)
theorem Rep.mono (hz : ∀ b, Z b → Z' b) {d : D} {v : V} (r : Rep K mg Z H d v F) : Rep K mg Z' H d v F := Rep.frame (X := []) (fun _ _ e _ => e) (fun b m => by cases m) hz d v F r (fun b _ m => by cases m)
theorem Reps.mono (hz : ∀ b, Z b → Z' b) {ds : List D} {vs : List V} (r : Reps K mg Z H ds vs F) : Reps K mg Z' H ds vs F := Reps.frame (X := []) (fun _ _ e _ => e) (fun b m => by cases m) hz ds vs F r (fun b _ m => by cases m)
end
end VL

set_option Elab.async false
set_option maxRecDepth 100000
/-! VB: environments, results, the judgements over HandS's. -/
namespace VL
open PySem L2

/-- an exception: its class's name; what it bears as at -/
structure Xc where
  cls : Str
  arg : Option D := none

/-- the frame's knowledge: ios: the slots of the parameters that are handed back; pv: their values -/
structure Vc where
  K : PySem.W.Frag
  mg : Str → Option Value
  W : WX
  ios : List Nat
  pv : Nat → V

section
variable (K : PySem.W.Frag) (mg : Str → Option Value)
def RepO (Z : Addr → Prop) (H : Hp) (d : D) (s : Option V) (F : List Addr) : Prop := (d = .dead ∧ F = []) ∨ ∃ v, s = some v ∧ Rep K mg Z H d v F
def RepS (Z : Addr → Prop) (H : Hp) : List D → St → List Addr → Prop
  | [], σ, F => σ = [] ∧ F = []
  | d :: ds, σ, F => ∃ s r F1 F2, σ = s :: r ∧ RepO K mg Z H d s F1 ∧ RepS Z H ds r F2 ∧ F = F1 ++ F2
def RepX (Z : Addr → Prop) (H : Hp) (x : Xc) (cls : Value) (dd : Option Addr) : Prop :=
  (∃ C, mg x.cls = some (.ref C) ∧ cls = .ref C) ∧ match x.arg with
    | none => dd = none
    | some d => ∃ e v, dd = some e ∧ H e = some (.xd [("at", v)]) ∧ Rep K mg Z H d v []
end

section
variable {K : PySem.W.Frag} {mg : Str → Option Value} {Z Z' : Addr → Prop} {H H' : Hp}
theorem RepO.frame {X : List Addr} (kp : Kp X H H') (hx : ∀ b ∈ X, ¬ Z b ∧ Mut (H b)) (hz : ∀ b, Z b → Z' b) {d : D} {s : Option V} {F : List Addr} (h : RepO K mg Z H d s F) (hf : ∀ b ∈ F, b ∉ X) : RepO K mg Z' H' d s F := by
  rcases h with h | ⟨v, e, r⟩
  · exact .inl h
  · exact .inr ⟨v, e, Rep.frame kp hx hz d v F r hf⟩
theorem RepS.frame {X : List Addr} (kp : Kp X H H') (hx : ∀ b ∈ X, ¬ Z b ∧ Mut (H b)) (hz : ∀ b, Z b → Z' b) : ∀ {env : List D} {σ : St} {F : List Addr}, RepS K mg Z H env σ F → (∀ b ∈ F, b ∉ X) → RepS K mg Z' H' env σ F
  | [], _, _, h, _ => h
  | d :: ds, σ, F, h, hf => by
    obtain ⟨s, r, F1, F2, e, h1, h2, rfl⟩ := h
    exact ⟨s, r, F1, F2, e, RepO.frame kp hx hz h1 (fun b m => hf b (List.mem_append_left _ m)), RepS.frame kp hx hz h2 (fun b m => hf b (List.mem_append_right _ m)), rfl⟩
theorem RepS.length : ∀ {env : List D} {σ : St} {F : List Addr}, RepS K mg Z H env σ F → σ.length = env.length
  | [], _, _, h => by rw [h.1]; rfl
  | d :: ds, _, _, h => by
    obtain ⟨s, r, F1, F2, rfl, h1, h2, rfl⟩ := h
    simp [RepS.length h2]
/-- a slot is taken out -/
theorem RepS.take : ∀ {env : List D} {σ : St} {F : List Addr} {i : Nat} {d : D}, RepS K mg Z H env σ F → env[i]? = some d → d.isDead = false →
    ∃ v F1 F2, σ[i]? = some (some v) ∧ Rep K mg Z H d v F1 ∧ RepS K mg Z H (env.set i .dead) σ F2 ∧ F.Perm (F1 ++ F2)
  | [], _, _, _, _, _, e, _ => by simp at e
  | x :: ds, σ, F, 0, d, h, e, nd => by
    obtain ⟨s, r, F1, F2, rfl, h1, h2, rfl⟩ := h
    simp at e; subst e
    rcases h1 with ⟨rfl, _⟩ | ⟨v, rfl, h1⟩
    · simp [D.isDead] at nd
    · exact ⟨v, F1, F2, rfl, h1, ⟨some v, r, [], F2, rfl, .inl ⟨rfl, rfl⟩, h2, rfl⟩, List.Perm.refl _⟩
  | x :: ds, σ, F, i + 1, d, h, e, nd => by
    obtain ⟨s, r, F1, F2, rfl, h1, h2, rfl⟩ := h
    obtain ⟨v, G1, G2, e1, e2, e3, p⟩ := RepS.take (i := i) h2 (by simpa using e) nd
    refine ⟨v, G1, F1 ++ G2, by simpa using e1, e2, ⟨s, r, F1, G2, rfl, h1, e3, rfl⟩, ?_⟩
    refine (List.Perm.append_left F1 p).trans ?_
    rw [← List.append_assoc, ← List.append_assoc]
    exact List.Perm.append_right G2 List.perm_append_comm
/-- .. as it stands -/
theorem RepS.get {env : List D} {σ : St} {F : List Addr} {i : Nat} {d : D} (h : RepS K mg Z H env σ F) (e : env[i]? = some d) (nd : d.isDead = false) : ∃ v F1, σ[i]? = some (some v) ∧ Rep K mg Z H d v F1 ∧ ∀ a ∈ F1, a ∈ F := by
  obtain ⟨v, F1, F2, h1, h2, _, p⟩ := h.take e nd
  exact ⟨v, F1, h1, h2, fun a m => p.mem_iff.mpr (List.mem_append_left _ m)⟩
/-- a slot is set: what stood there is given up -/
theorem RepS.set : ∀ {env : List D} {σ : St} {F : List Addr} {i : Nat} {d : D} {v : V} {G : List Addr}, RepS K mg Z H env σ F → Rep K mg Z H d v G → (G ++ F).Nodup →
    ∃ F', RepS K mg Z H (env.set i d) (σ.set i (some v)) F' ∧ F'.Nodup ∧ (∀ a ∈ F', a ∈ G ++ F)
  | [], σ, F, i, d, v, G, h, r, nd => by
    obtain ⟨rfl, rfl⟩ := h
    exact ⟨[], ⟨by simp, rfl⟩, List.nodup_nil, fun a m => by cases m⟩
  | x :: ds, σ, F, 0, d, v, G, h, r, nd => by
    obtain ⟨s, q, F1, F2, rfl, h1, h2, rfl⟩ := h
    refine ⟨G ++ F2, ⟨some v, q, G, F2, rfl, .inr ⟨v, rfl, r⟩, h2, rfl⟩, ?_, ?_⟩
    · rw [List.nodup_append] at nd ⊢
      exact ⟨nd.1, (List.nodup_append.mp nd.2.1).2.1, fun a m b n => nd.2.2 a m b (List.mem_append_right _ n)⟩
    · intro a m
      rcases List.mem_append.mp m with m | m
      · exact List.mem_append_left _ m
      · exact List.mem_append_right _ (List.mem_append_right _ m)
  | x :: ds, σ, F, i + 1, d, v, G, h, r, nd => by
    obtain ⟨s, q, F1, F2, rfl, h1, h2, rfl⟩ := h
    have nd2 : (G ++ F2).Nodup := by
      rw [List.nodup_append] at nd ⊢
      exact ⟨nd.1, (List.nodup_append.mp nd.2.1).2.1, fun a m b n => nd.2.2 a m b (List.mem_append_right _ n)⟩
    obtain ⟨F', e1, e2, e3⟩ := RepS.set (i := i) h2 r nd2
    refine ⟨F1 ++ F', ⟨s, _, F1, F', rfl, h1, e1, rfl⟩, ?_, ?_⟩
    · rw [List.nodup_append] at nd
      obtain ⟨nG, n12, ng⟩ := nd
      rw [List.nodup_append] at n12
      refine List.nodup_append.mpr ⟨n12.1, e2, fun a m b n e => ?_⟩
      rcases List.mem_append.mp (e3 b n) with k | k
      · exact ng b k a (List.mem_append_left _ m) e.symm
      · exact n12.2.2 a m b k e
    · intro a m
      rcases List.mem_append.mp m with m | m
      · exact List.mem_append_right _ (List.mem_append_left _ m)
      · rcases List.mem_append.mp (e3 a m) with k | k
        · exact List.mem_append_left _ k
        · exact List.mem_append_right _ (List.mem_append_right _ k)
/-- a slot's tree is another one, of the same value -/
theorem RepS.put {env : List D} {σ : St} {F : List Addr} {i : Nat} {d : D} {v : V} {G : List Addr} (h : RepS K mg Z H env σ F) (r : Rep K mg Z H d v G) (nd : (G ++ F).Nodup) (hs : σ[i]? = some (some v)) :
    ∃ F', RepS K mg Z H (env.set i d) σ F' ∧ F'.Nodup ∧ (∀ a ∈ F', a ∈ G ++ F) := by
  obtain ⟨F', e1, e2, e3⟩ := h.set (i := i) r nd
  have e : σ.set i (some v) = σ := by
    obtain ⟨hi, hv⟩ := List.getElem?_eq_some_iff.mp hs
    rw [← hv]
    exact List.set_getElem_self hi
  rw [e] at e1
  exact ⟨F', e1, e2, e3⟩
/-- a slot is given up -/
theorem RepS.kill {env : List D} {σ : St} {F : List Addr} (i : Nat) (h : RepS K mg Z H env σ F) (nd : F.Nodup) : ∃ F', RepS K mg Z H (env.set i .dead) σ F' ∧ F'.Nodup ∧ ∀ a ∈ F', a ∈ F := by
  cases e : env[i]? with
  | none =>
    refine ⟨F, ?_, nd, fun _ m => m⟩
    rw [List.set_eq_of_length_le (by simpa using e)]
    exact h
  | some d =>
    cases q : d.isDead with
    | true =>
      refine ⟨F, ?_, nd, fun _ m => m⟩
      have : d = .dead := by cases d <;> simp [D.isDead] at q; rfl
      subst this
      obtain ⟨hi, hv⟩ := List.getElem?_eq_some_iff.mp e
      rw [← hv, List.set_getElem_self hi]
      exact h
    | false =>
      obtain ⟨v, F1, F2, _, _, r, p⟩ := h.take e q
      have n2 := p.nodup_iff.mp nd
      exact ⟨F2, r, (List.nodup_append.mp n2).2.1, fun a m => p.mem_iff.mpr (List.mem_append_right _ m)⟩
end

/-! ### results -/
inductive RE where
  | ok (d : D) (env : List D) | exc (x : Xc) (env : List D) | bad
inductive RA where
  | ok (ds : List D) (env : List D) | exc (x : Xc) (env : List D) | bad
inductive RS where
  | nx (env : List D) | rt (d : D) (env : List D) | bk (env : List D) | ct (env : List D) | exc (x : Xc) (env : List D) | bad
abbrev CE := List D → RE
abbrev CS := List D → RS
def RE.bind (r : RE) (k : D → List D → RE) : RE := match r with
  | .ok d e => k d e
  | .exc x e => .exc x e
  | .bad => .bad
def RE.bindA (r : RE) (k : D → List D → RA) : RA := match r with
  | .ok d e => k d e
  | .exc x e => .exc x e
  | .bad => .bad
def RE.bindS (r : RE) (k : D → List D → RS) : RS := match r with
  | .ok d e => k d e
  | .exc x e => .exc x e
  | .bad => .bad
def RA.bind (r : RA) (k : List D → List D → RE) : RE := match r with
  | .ok d e => k d e
  | .exc x e => .exc x e
  | .bad => .bad
def RA.bindA (r : RA) (k : List D → List D → RA) : RA := match r with
  | .ok d e => k d e
  | .exc x e => .exc x e
  | .bad => .bad
def RA.bindS (r : RA) (k : List D → List D → RS) : RS := match r with
  | .ok d e => k d e
  | .exc x e => .exc x e
  | .bad => .bad
@[simp] theorem RE.bind_ok (d : D) (e : List D) (k : D → List D → RE) : (RE.ok d e).bind k = k d e := rfl
@[simp] theorem RE.bindA_ok (d : D) (e : List D) (k : D → List D → RA) : (RE.ok d e).bindA k = k d e := rfl
@[simp] theorem RE.bindS_ok (d : D) (e : List D) (k : D → List D → RS) : (RE.ok d e).bindS k = k d e := rfl
@[simp] theorem RA.bind_ok (d : List D) (e : List D) (k : List D → List D → RE) : (RA.ok d e).bind k = k d e := rfl
@[simp] theorem RA.bindA_ok (d : List D) (e : List D) (k : List D → List D → RA) : (RA.ok d e).bindA k = k d e := rfl
@[simp] theorem RA.bindS_ok (d : List D) (e : List D) (k : List D → List D → RS) : (RA.ok d e).bindS k = k d e := rfl
@[simp] theorem RE.bind_exc (d : Xc) (e : List D) (k : D → List D → RE) : (RE.exc d e).bind k = .exc d e := rfl
@[simp] theorem RE.bindA_exc (d : Xc) (e : List D) (k : D → List D → RA) : (RE.exc d e).bindA k = .exc d e := rfl
@[simp] theorem RE.bindS_exc (d : Xc) (e : List D) (k : D → List D → RS) : (RE.exc d e).bindS k = .exc d e := rfl
@[simp] theorem RA.bind_exc (d : Xc) (e : List D) (k : List D → List D → RE) : (RA.exc d e).bind k = .exc d e := rfl
@[simp] theorem RA.bindA_exc (d : Xc) (e : List D) (k : List D → List D → RA) : (RA.exc d e).bindA k = .exc d e := rfl
@[simp] theorem RA.bindS_exc (d : Xc) (e : List D) (k : List D → List D → RS) : (RA.exc d e).bindS k = .exc d e := rfl

/-! ### what the frame's state is, and the readings -/
section
variable (c : Vc)
def Vc.Pin (σ : St) : Prop := ∀ i ∈ c.ios, σ[i]? = some (some (c.pv i))
abbrev Vc.R (Z : Addr → Prop) (H : Hp) (d : D) (v : V) (F : List Addr) : Prop := Rep c.K c.mg Z H d v F
abbrev Vc.Rs (Z : Addr → Prop) (H : Hp) (ds : List D) (vs : List V) (F : List Addr) : Prop := Reps c.K c.mg Z H ds vs F
abbrev Vc.E (Z : Addr → Prop) (H : Hp) (env : List D) (σ : St) (F : List Addr) : Prop := RepS c.K c.mg Z H env σ F
/-- a state -/
structure Vc.At (Z : Addr → Prop) (H : Hp) (env : List D) (σ : St) (F : List Addr) : Prop where
  rep : c.E Z H env σ F
  wd : Wd Z H F
  pin : c.Pin σ
def postX (Z : Addr → Prop) (H : Hp) (F : List Addr) (σ : St) (x : Xc) (env : List D) : Prop :=
  ∀ Z' H' F' cls dd, Step Z Z' H H' F F' → c.E Z' H' env σ F' → RepX c.K c.mg Z' H' x cls dd → c.W cls dd σ H'
def postXS (Z : Addr → Prop) (H : Hp) (F : List Addr) (x : Xc) (env : List D) : Prop :=
  ∀ Z' H' F' σ' cls dd, Step Z Z' H H' F F' → c.E Z' H' env σ' F' → c.Pin σ' → RepX c.K c.mg Z' H' x cls dd → c.W cls dd σ' H'
def postE (Z : Addr → Prop) (H : Hp) (F : List Addr) (σ : St) (Q : VK) : RE → Prop
  | .ok d env => ∀ Z' H' v G F', Step Z Z' H H' F (G ++ F') → c.R Z' H' d v G → c.E Z' H' env σ F' → Q v H'
  | .exc x env => postX c Z H F σ x env
  | .bad => False
def postT (Z : Addr → Prop) (H : Hp) (F : List Addr) (σ : St) (Q : Bool → Hp → Prop) : RE → Prop
  | .ok d env => ∃ b, d = .bl b ∧ ∀ Z' H' F', Step Z Z' H H' F F' → c.E Z' H' env σ F' → Q b H'
  | .exc x env => postX c Z H F σ x env
  | .bad => False
def postA (Z : Addr → Prop) (H : Hp) (F : List Addr) (σ : St) (Q : List V → Hp → Prop) : RA → Prop
  | .ok ds env => ∀ Z' H' vs G F', Step Z Z' H H' F (G ++ F') → c.Rs Z' H' ds vs G → c.E Z' H' env σ F' → Q vs H'
  | .exc x env => postX c Z H F σ x env
  | .bad => False
def postS (Z : Addr → Prop) (H : Hp) (F : List Addr) (D : Ends) : RS → Prop
  | .nx env => ∀ Z' H' F' σ', Step Z Z' H H' F F' → c.E Z' H' env σ' F' → c.Pin σ' → D.nx σ' H'
  | .bk env => ∀ Z' H' F' σ', Step Z Z' H H' F F' → c.E Z' H' env σ' F' → c.Pin σ' → D.bk σ' H'
  | .ct env => ∀ Z' H' F' σ', Step Z Z' H H' F F' → c.E Z' H' env σ' F' → c.Pin σ' → D.ct σ' H'
  | .rt d env => ∀ Z' H' v G F' σ', Step Z Z' H H' F (G ++ F') → c.R Z' H' d v G → c.E Z' H' env σ' F' → c.Pin σ' → D.rt v H'
  | .exc x env => postXS c Z H F x env
  | .bad => False
def tV (f : CE) : TE := fun σ H Q => ∃ Z env F, c.At Z H env σ F ∧ postE c Z H F σ Q (f env)
def tT (f : CE) : TT := fun σ H Q => ∃ Z env F, c.At Z H env σ F ∧ postT c Z H F σ Q (f env)
def tS (f : CS) : TS := fun D σ H => ∃ Z env F, c.At Z H env σ F ∧ postS c Z H F D (f env)
def tAs : List CE → TA
  | [] => tNil
  | f :: fs => tCons (tV c f) (tAs fs)
end
def evA : List CE → List D → RA
  | [], env => .ok [] env
  | f :: fs, env => (f env).bindA fun d e => (evA fs e).bindA fun ds e' => .ok (d :: ds) e'

theorem _root_.L2.PE.imp {X : Cx} {e : Expr} {t t' : TE} (h : PE X e t) (i : ∀ σ H Q, t' σ H Q → t σ H Q) : PE X e t' := ⟨fun pins s σ H Q I q => h.run pins s σ H Q I (i σ H Q q)⟩
theorem _root_.L2.PT.imp {X : Cx} {e : Expr} {t t' : TT} (h : PT X e t) (i : ∀ σ H Q, t' σ H Q → t σ H Q) : PT X e t' := ⟨fun pins s σ H Q I q => h.run pins s σ H Q I (i σ H Q q)⟩
theorem _root_.L2.PA.imp {X : Cx} {e : List Expr} {t t' : TA} (h : PA X e t) (i : ∀ σ H Q, t' σ H Q → t σ H Q) : PA X e t' := ⟨fun pos pins s σ H Q I q => h.run pos pins s σ H Q I (i σ H Q q)⟩
theorem _root_.L2.PS.imp {X : Cx} {e : Stmt} {t t' : TS} (h : PS X e t) (i : ∀ D σ H, t' D σ H → t D σ H) : PS X e t' := ⟨fun pins s σ H D I q => h.run pins s σ H D I (i D σ H q)⟩
theorem _root_.L2.PSs.imp {X : Cx} {e : List Stmt} {t t' : TS} (h : PSs X e t) (i : ∀ D σ H, t' D σ H → t D σ H) : PSs X e t' := ⟨fun pins s σ H D I q => h.run pins s σ H D I (i D σ H q)⟩

section
variable {c : Vc} {Z Z1 Z2 : Addr → Prop} {H H1 H2 : Hp} {F A B C : List Addr} {σ : St} {env env1 : List D}
theorem Vc.At.step (a : c.At Z H env σ F) (s : Step Z Z1 H H1 F (A ++ B)) (e : c.E Z1 H1 env1 σ B) : c.At Z1 H1 env1 σ B := ⟨e, s.wd.right, a.pin⟩
theorem Vc.At.step0 (a : c.At Z H env σ F) (s : Step Z Z1 H H1 F B) (e : c.E Z1 H1 env1 σ B) : c.At Z1 H1 env1 σ B := ⟨e, s.wd, a.pin⟩
theorem postX.later {x : Xc} (h : postX c Z H F σ x env) (s : Step Z Z1 H H1 F (A ++ B)) : postX c Z1 H1 B σ x env := fun Z' H' F' cls dd t e r => h Z' H' F' cls dd ((s.seq t).drop) e r
theorem postXS.later {x : Xc} (h : postXS c Z H F x env) (s : Step Z Z1 H H1 F (A ++ B)) : postXS c Z1 H1 B x env := fun Z' H' F' σ' cls dd t e p r => h Z' H' F' σ' cls dd ((s.seq t).drop) e p r
theorem postXS.at {x : Xc} (h : postXS c Z H F x env) (p : c.Pin σ) : postX c Z H F σ x env := fun Z' H' F' cls dd t e r => h Z' H' F' σ cls dd t e p r
theorem postE.later {Q : VK} {r : RE} (h : postE c Z H F σ Q r) (s : Step Z Z1 H H1 F B) : postE c Z1 H1 B σ Q r := by
  cases r with
  | ok d e => exact fun Z' H' v G F' t rp re => h Z' H' v G F' (s.trans t) rp re
  | exc x e => exact fun Z' H' F' cls dd t e r => h Z' H' F' cls dd (s.trans t) e r
  | bad => exact h
theorem postT.later {Q : Bool → Hp → Prop} {r : RE} (h : postT c Z H F σ Q r) (s : Step Z Z1 H H1 F B) : postT c Z1 H1 B σ Q r := by
  cases r with
  | ok d e =>
    obtain ⟨b, e1, h⟩ := h
    exact ⟨b, e1, fun Z' H' F' t re => h Z' H' F' (s.trans t) re⟩
  | exc x e => exact fun Z' H' F' cls dd t e r => h Z' H' F' cls dd (s.trans t) e r
  | bad => exact h
theorem postS.later {D : Ends} {r : RS} (h : postS c Z H F D r) (s : Step Z Z1 H H1 F B) : postS c Z1 H1 B D r := by
  cases r with
  | nx e => exact fun Z' H' F' σ' t re p => h Z' H' F' σ' (s.trans t) re p
  | bk e => exact fun Z' H' F' σ' t re p => h Z' H' F' σ' (s.trans t) re p
  | ct e => exact fun Z' H' F' σ' t re p => h Z' H' F' σ' (s.trans t) re p
  | rt d e => exact fun Z' H' v G F' σ' t rp re p => h Z' H' v G F' σ' (s.trans t) rp re p
  | exc x e => exact fun Z' H' F' σ' cls dd t e p r => h Z' H' F' σ' cls dd (s.trans t) e p r
  | bad => exact h
/-- an expression within what follows it -/
theorem tV.go {f : CE} {Q : VK} (a : c.At Z H env σ F)
    (h : match f env with
      | .ok d e => ∀ Z' H' v G F', Step Z Z' H H' F (G ++ F') → c.R Z' H' d v G → c.At Z' H' e σ F' → Q v H'
      | .exc x e => postX c Z H F σ x e
      | .bad => False) : tV c f σ H Q := by
  refine ⟨Z, env, F, a, ?_⟩
  cases e : f env with
  | ok d e1 => rw [e] at h; exact fun Z' H' v G F' s r re => h Z' H' v G F' s r (a.step s re)
  | exc x e1 => rw [e] at h; exact h
  | bad => rw [e] at h; exact h
/-- arguments, from the left -/
theorem tAs.go : ∀ {fs : List CE} {Q : List V → Hp → Prop} {Z : Addr → Prop} {H : Hp} {env : List D} {F : List Addr}, c.At Z H env σ F →
    (match evA fs env with
      | .ok ds e => ∀ Z' H' vs G F', Step Z Z' H H' F (G ++ F') → c.Rs Z' H' ds vs G → c.At Z' H' e σ F' → Q vs H'
      | .exc x e => postX c Z H F σ x e
      | .bad => False) → tAs c fs σ H Q
  | [], Q, Z, H, env, F, a, h => h Z H [] [] F (Step.refl a.wd) Reps.nil a
  | f :: fs, Q, Z, H, env, F, a, h => by
    refine tV.go a ?_
    unfold evA at h
    cases e : f env with
    | bad => rw [e] at h; exact h
    | exc x e1 => rw [e] at h; exact h
    | ok d e1 =>
      rw [e] at h
      intro Z1 H1 v G F1 s r a1
      refine tAs.go a1 ?_
      simp only [RE.bindA] at h
      cases e2 : evA fs e1 with
      | bad => rw [e2] at h; exact h
      | exc x e3 => rw [e2] at h; exact postX.later h s
      | ok ds e3 =>
        rw [e2] at h
        intro Z2 H2 vs G2 F2 s2 r2 a2
        have t := s.seq s2
        rw [← List.append_assoc] at t
        exact h Z2 H2 (v :: vs) (G ++ G2) F2 t ⟨v, vs, G, G2, rfl, s2.rep s.wd r, r2, rfl⟩ a2
end


section
variable {K : PySem.W.Frag} {mg : Str → Option Value} {Z Z' Z1 Z2 : Addr → Prop} {H H' H1 H2 : Hp} {F F' A B C : List Addr}
theorem Step.beside2 (t : Step Z1 Z2 H1 H2 B C) (w : Wd Z1 H1 (B ++ A)) : Step Z1 Z2 H1 H2 (B ++ A) (C ++ A) := by
  have q := t.beside (w.perm List.perm_append_comm)
  refine ⟨q.zz, fun b o e n => q.kp b o e fun m => n (List.perm_append_comm.mem_iff.mp m), q.wd.perm List.perm_append_comm, fun a m => ?_, fun a z => ?_⟩
  · rcases q.ff a (List.perm_append_comm.mem_iff.mp m) with h | h
    · exact .inl (List.perm_append_comm.mem_iff.mp h)
    · exact .inr h
  · rcases q.zn a z with h | h | h
    · exact .inl h
    · exact .inr (.inl (List.perm_append_comm.mem_iff.mp h))
    · exact .inr (.inr h)
theorem Step.envr (t : Step Z1 Z2 H1 H2 B C) (w : Wd Z1 H1 (B ++ A)) {env : List D} {σ : St} (r : RepS K mg Z1 H1 env σ A) : RepS K mg Z2 H2 env σ A :=
  RepS.frame t.kp (fun b m => w.mu b (List.mem_append_left _ m)) t.zz r (fun b m n => w.dis b n m)
theorem Step.repr (t : Step Z1 Z2 H1 H2 B C) (w : Wd Z1 H1 (B ++ A)) {d : D} {v : V} (r : Rep K mg Z1 H1 d v A) : Rep K mg Z2 H2 d v A :=
  Rep.frame t.kp (fun b m => w.mu b (List.mem_append_left _ m)) t.zz d v A r (fun b m n => w.dis b n m)
theorem Step.repsr (t : Step Z1 Z2 H1 H2 B C) (w : Wd Z1 H1 (B ++ A)) {d : List D} {v : List V} (r : Reps K mg Z1 H1 d v A) : Reps K mg Z2 H2 d v A :=
  Reps.frame t.kp (fun b m => w.mu b (List.mem_append_left _ m)) t.zz d v A r (fun b m n => w.dis b n m)
end

/-! ### strict operations on values -/
def cApp (f : List D → Option D) (fs : List CE) : CE := fun env => (evA fs env).bind fun ds e => match f ds with
  | some z => .ok z e
  | none => .bad
/-- the reading r does f -/
def OkF (c : Vc) (r : List V → Hp → VK → Prop) (f : List D → Option D) : Prop :=
  ∀ Z H ds vs G z Q, f ds = some z → c.Rs Z H ds vs G → Wd Z H G → (∀ Z' H' u G', Step Z Z' H H' G G' → c.R Z' H' z u G' → Q u H') → r vs H Q
section
variable {c : Vc}
theorem app_at {r : List V → Hp → VK → Prop} {f : List D → Option D} (ok : OkF c r f) {Z Z1 : Addr → Prop} {H H1 : Hp} {ds : List D} {vs : List V} {F G F1 : List Addr} {e : List D} {σ : St} {Q : VK} {z : D} (ez : f ds = some z)
    (s : Step Z Z1 H H1 F (G ++ F1)) (r1 : c.Rs Z1 H1 ds vs G) (a1 : c.At Z1 H1 e σ F1) (h : ∀ Z' H' u G', Step Z Z' H H' F (G' ++ F1) → c.R Z' H' z u G' → c.At Z' H' e σ F1 → Q u H') : r vs H1 Q := by
  refine ok Z1 H1 ds vs G z Q ez r1 s.wd.left fun Z2 H2 u G2 s2 r2 => ?_
  have t := s2.beside2 s.wd
  exact h Z2 H2 u G2 (s.trans t) r2 ⟨s2.envr s.wd a1.rep, t.wd.right, a1.pin⟩
theorem app_run {r : List V → Hp → VK → Prop} {f : List D → Option D} (ok : OkF c r f) {fs : List CE} {σ : St} {H : Hp} {Q : VK} (h : tV c (cApp f fs) σ H Q) : tAs c fs σ H fun vs H1 => r vs H1 Q := by
  obtain ⟨Z, env, F, a, h⟩ := h
  refine tAs.go a ?_
  unfold cApp at h
  cases e : evA fs env with
  | bad => rw [e] at h; exact h
  | exc x e1 => rw [e] at h; exact h
  | ok ds e1 =>
    rw [e] at h
    intro Z1 H1 vs G F1 s r1 a1
    simp only [RA.bind] at h
    cases ez : f ds with
    | none => rw [ez] at h; exact h.elim
    | some z =>
      rw [ez] at h
      exact app_at ok ez s r1 a1 fun Z' H' u G' t ru a2 => h Z' H' u G' F1 t ru a2.rep
/-- a method of a built-in type: the receiver's kind is asked ahead of the arguments -/
def cMet (ty : D → Bool) (f : D → List D → Option D) (o : CE) (fs : List CE) : CE := fun env => (o env).bind fun x e => if ty x then (evA fs e).bind fun ds e' => match f x ds with
  | some z => .ok z e'
  | none => .bad
  else .bad
theorem met_run {r : V → List V → Hp → VK → Prop} {ty : D → Bool} {T : V → Hp → Prop} {f : D → List D → Option D} (ht : ∀ Z H d v G, ty d = true → c.R Z H d v G → T v H)
    (ok : OkF c (fun vs H Q => ∃ x xs, vs = x :: xs ∧ r x xs H Q) (fun ds => match ds with | d :: ds => f d ds | [] => none)) {o : CE} {fs : List CE} {σ : St} {H : Hp} {Q : VK} (h : tV c (cMet ty f o fs) σ H Q) :
    tV c o σ H fun x H1 => T x H1 ∧ tAs c fs σ H1 fun xs H2 => r x xs H2 Q := by
  obtain ⟨Z, env, F, a, h⟩ := h
  refine tV.go a ?_
  unfold cMet at h
  cases eo : o env with
  | bad => rw [eo] at h; exact h
  | exc x e1 => rw [eo] at h; exact h
  | ok d e1 =>
    rw [eo] at h
    simp only [RE.bind] at h
    cases et : ty d with
    | false => rw [et] at h; exact h.elim
    | true =>
      rw [et] at h
      intro Z1 H1 v G F1 s r1 a1
      refine ⟨ht Z1 H1 d v G et r1, tAs.go a1 ?_⟩
      simp only [if_true] at h
      cases e : evA fs e1 with
      | bad => rw [e] at h; exact h
      | exc x e2 => rw [e] at h; exact postX.later h s
      | ok ds e2 =>
        rw [e] at h
        intro Z2 H2 vs G2 F2 s2 r2 a2
        simp only [RA.bind] at h
        cases ez : f d ds with
        | none => rw [ez] at h; exact h.elim
        | some z =>
          rw [ez] at h
          have t := s.seq s2
          rw [← List.append_assoc] at t
          have q := app_at (Q := Q) ok (ds := d :: ds) (vs := v :: vs) ez t ⟨v, vs, G, G2, rfl, s2.rep s.wd r1, r2, rfl⟩ a2 fun Z' H' u G' t' ru a3 => h Z' H' u G' F2 t' ru a3.rep
          obtain ⟨x, xs, e1, q⟩ := q
          cases e1
          exact q

/-! ### constants, names -/
def cK (d : D) : CE := fun env => .ok d env
def cVar (i : Nat) : CE := fun env => match env[i]? with
  | some d => if d.own || d.isDead then .bad else .ok d env
  | none => .bad
/-- .. whose owner gives it away -/
def cTake (i : Nat) : CE := fun env => match env[i]? with
  | some d => if d.isDead then .bad else .ok d (env.set i .dead)
  | none => .bad
theorem k_run {d : D} {v : V} (hr : ∀ Z H, c.R Z H d v []) {σ : St} {H : Hp} {Q : VK} (h : tV c (cK d) σ H Q) : tC v σ H Q := by
  obtain ⟨Z, env, F, a, h⟩ := h
  exact h Z H v [] F (Step.refl a.wd) (hr Z H) a.rep
theorem var_run {i : Nat} {σ : St} {H : Hp} {Q : VK} (h : tV c (cVar i) σ H Q) : tVar i σ H Q := by
  obtain ⟨Z, env, F, a, h⟩ := h
  unfold cVar at h
  cases e : env[i]? with
  | none => rw [e] at h; exact h.elim
  | some d =>
    rw [e] at h
    cases o : d.own with
    | true => simp [o] at h; exact h.elim
    | false =>
      cases nd : d.isDead with
      | true => simp [o, nd] at h; exact h.elim
      | false =>
        simp [o, nd] at h
        obtain ⟨v, F1, e1, r, _⟩ := a.rep.get e nd
        have := Rep.noown d v F1 r o
        subst this
        exact ⟨v, e1, h Z H v [] F (Step.refl a.wd) r a.rep⟩
theorem take_at {i : Nat} {σ : St} {H : Hp} {Z : Addr → Prop} {env : List D} {F : List Addr} {Q : VK} (a : c.At Z H env σ F) (h : postE c Z H F σ Q (cTake i env)) :
    ∃ v d G F', σ[i]? = some (some v) ∧ env[i]? = some d ∧ d.isDead = false ∧ Step Z Z H H F (G ++ F') ∧ c.R Z H d v G ∧ c.At Z H (env.set i .dead) σ F' ∧ Q v H := by
  unfold cTake at h
  cases e : env[i]? with
  | none => rw [e] at h; exact h.elim
  | some d =>
    rw [e] at h
    cases nd : d.isDead with
    | true => simp [nd] at h; exact h.elim
    | false =>
      simp [nd] at h
      obtain ⟨v, G, F2, e1, r, r2, p⟩ := a.rep.take e nd
      have s := (Step.refl a.wd).perm p
      exact ⟨v, d, G, F2, e1, rfl, nd, s, r, ⟨r2, s.wd.right, a.pin⟩, h Z H v G F2 s r r2⟩
theorem take_run {i : Nat} {σ : St} {H : Hp} {Q : VK} (h : tV c (cTake i) σ H Q) : tVar i σ H Q := by
  obtain ⟨Z, env, F, a, h⟩ := h
  obtain ⟨v, d, G, F', e1, _, _, _, _, _, q⟩ := take_at a h
  exact ⟨v, e1, q⟩

/-! ### and, or, not, if -/
def cAnd (f g : CE) : CE := fun env => (f env).bind fun d e => match d with
  | .bl true => g e
  | .bl false => .ok (.bl false) e
  | _ => .bad
def cOr (f g : CE) : CE := fun env => (f env).bind fun d e => match d with
  | .bl true => .ok (.bl true) e
  | .bl false => g e
  | _ => .bad
def cNot (f : CE) : CE := fun env => (f env).bind fun d e => match d with
  | .bl b => .ok (.bl !b) e
  | _ => .bad
def cIf (t f g : CE) : CE := fun env => (t env).bind fun d e => match d with
  | .bl true => f e
  | .bl false => g e
  | _ => .bad
theorem tT.go {f : CE} {σ : St} {H : Hp} {Z : Addr → Prop} {env : List D} {F : List Addr} {Q : Bool → Hp → Prop} (a : c.At Z H env σ F)
    (h : match f env with
      | .ok d e => ∃ b, d = .bl b ∧ ∀ Z' H' F', Step Z Z' H H' F F' → c.At Z' H' e σ F' → Q b H'
      | .exc x e => postX c Z H F σ x e
      | .bad => False) : tT c f σ H Q := by
  refine ⟨Z, env, F, a, ?_⟩
  cases e : f env with
  | ok d e1 => rw [e] at h; obtain ⟨b, e2, h⟩ := h; exact ⟨b, e2, fun Z' H' F' s re => h Z' H' F' s (a.step0 s re)⟩
  | exc x e1 => rw [e] at h; exact h
  | bad => rw [e] at h; exact h
/-- a value that is a truth, as a test -/
theorem tT.of_tV {f : CE} {σ : St} {H : Hp} {Q : Bool → Hp → Prop} (h : tT c f σ H Q) : tB (tV c f) σ H Q := by
  obtain ⟨Z, env, F, a, h⟩ := h
  refine tV.go a ?_
  cases e : f env with
  | ok d e1 =>
    rw [e] at h
    obtain ⟨b, rfl, h⟩ := h
    intro Z' H' v G F' s r a'
    obtain ⟨rfl, rfl⟩ := r
    exact ⟨b, rfl, h Z' H' F' s a'.rep⟩
  | exc x e1 => rw [e] at h; exact h
  | bad => rw [e] at h; exact h
theorem and_runT {f g : CE} {σ : St} {H : Hp} {Q : Bool → Hp → Prop} (h : tT c (cAnd f g) σ H Q) : tAnd (tT c f) (tT c g) σ H Q := by
  obtain ⟨Z, env, F, a, h⟩ := h
  refine tT.go a ?_
  unfold cAnd at h
  cases e : f env with
  | bad => rw [e] at h; exact h
  | exc x e1 => rw [e] at h; exact h
  | ok d e1 =>
    rw [e] at h
    simp only [RE.bind] at h
    cases d with
    | bl b =>
      refine ⟨b, rfl, fun Z' H' F' s a' => ?_⟩
      cases b with
      | true => rw [if_pos rfl]; exact ⟨Z', e1, F', a', postT.later h s⟩
      | false => rw [if_neg Bool.false_ne_true]; obtain ⟨b, e2, h⟩ := h; cases e2; exact h Z' H' F' s a'.rep
    | _ => exact h.elim
theorem or_runT {f g : CE} {σ : St} {H : Hp} {Q : Bool → Hp → Prop} (h : tT c (cOr f g) σ H Q) : tOr (tT c f) (tT c g) σ H Q := by
  obtain ⟨Z, env, F, a, h⟩ := h
  refine tT.go a ?_
  unfold cOr at h
  cases e : f env with
  | bad => rw [e] at h; exact h
  | exc x e1 => rw [e] at h; exact h
  | ok d e1 =>
    rw [e] at h
    simp only [RE.bind] at h
    cases d with
    | bl b =>
      refine ⟨b, rfl, fun Z' H' F' s a' => ?_⟩
      cases b with
      | false => rw [if_neg Bool.false_ne_true]; exact ⟨Z', e1, F', a', postT.later h s⟩
      | true => rw [if_pos rfl]; obtain ⟨b, e2, h⟩ := h; cases e2; exact h Z' H' F' s a'.rep
    | _ => exact h.elim
theorem not_runT {f : CE} {σ : St} {H : Hp} {Q : Bool → Hp → Prop} (h : tT c (cNot f) σ H Q) : tNot (tT c f) σ H Q := by
  obtain ⟨Z, env, F, a, h⟩ := h
  refine tT.go a ?_
  unfold cNot at h
  cases e : f env with
  | bad => rw [e] at h; exact h
  | exc x e1 => rw [e] at h; exact h
  | ok d e1 =>
    rw [e] at h
    simp only [RE.bind] at h
    cases d with
    | bl b =>
      refine ⟨b, rfl, fun Z' H' F' s a' => ?_⟩
      obtain ⟨b', e2, h⟩ := h; cases e2; exact h Z' H' F' s a'.rep
    | _ => exact h.elim
theorem and_run {f g : CE} {σ : St} {H : Hp} {Q : VK} (h : tV c (cAnd f g) σ H Q) : tAndV (tV c f) (tV c g) σ H Q := by
  obtain ⟨Z, env, F, a, h⟩ := h
  refine tV.go a ?_
  unfold cAnd at h
  cases e : f env with
  | bad => rw [e] at h; exact h
  | exc x e1 => rw [e] at h; exact h
  | ok d e1 =>
    rw [e] at h
    simp only [RE.bind] at h
    intro Z' H' v G F' s r a'
    cases d with
    | bl b =>
      obtain ⟨rfl, rfl⟩ := r
      refine ⟨b, rfl, ?_⟩
      cases b with
      | true => rw [if_pos rfl]; exact ⟨Z', e1, F', a', postE.later h s⟩
      | false => rw [if_neg Bool.false_ne_true]; exact h Z' H' _ [] F' s ⟨rfl, rfl⟩ a'.rep
    | _ => exact h.elim
theorem or_run {f g : CE} {σ : St} {H : Hp} {Q : VK} (h : tV c (cOr f g) σ H Q) : tOrV (tV c f) (tV c g) σ H Q := by
  obtain ⟨Z, env, F, a, h⟩ := h
  refine tV.go a ?_
  unfold cOr at h
  cases e : f env with
  | bad => rw [e] at h; exact h
  | exc x e1 => rw [e] at h; exact h
  | ok d e1 =>
    rw [e] at h
    simp only [RE.bind] at h
    intro Z' H' v G F' s r a'
    cases d with
    | bl b =>
      obtain ⟨rfl, rfl⟩ := r
      refine ⟨b, rfl, ?_⟩
      cases b with
      | false => rw [if_neg Bool.false_ne_true]; exact ⟨Z', e1, F', a', postE.later h s⟩
      | true => rw [if_pos rfl]; exact h Z' H' _ [] F' s ⟨rfl, rfl⟩ a'.rep
    | _ => exact h.elim
theorem not_run {f : CE} {σ : St} {H : Hp} {Q : VK} (h : tV c (cNot f) σ H Q) : tNotV (tV c f) σ H Q := by
  obtain ⟨Z, env, F, a, h⟩ := h
  refine tV.go a ?_
  unfold cNot at h
  cases e : f env with
  | bad => rw [e] at h; exact h
  | exc x e1 => rw [e] at h; exact h
  | ok d e1 =>
    rw [e] at h
    simp only [RE.bind] at h
    intro Z' H' v G F' s r a'
    cases d with
    | bl b =>
      obtain ⟨rfl, rfl⟩ := r
      exact ⟨b, rfl, h Z' H' _ [] F' s ⟨rfl, rfl⟩ a'.rep⟩
    | _ => exact h.elim
theorem if_run {t f g : CE} {σ : St} {H : Hp} {Q : VK} (h : tV c (cIf t f g) σ H Q) : tIf (tT c t) (tV c f) (tV c g) σ H Q := by
  obtain ⟨Z, env, F, a, h⟩ := h
  refine tT.go a ?_
  unfold cIf at h
  cases e : t env with
  | bad => rw [e] at h; exact h
  | exc x e1 => rw [e] at h; exact h
  | ok d e1 =>
    rw [e] at h
    simp only [RE.bind] at h
    cases d with
    | bl b =>
      refine ⟨b, rfl, fun Z' H' F' s a' => ?_⟩
      cases b with
      | true => rw [if_pos rfl]; exact ⟨Z', e1, F', a', postE.later h s⟩
      | false => rw [if_neg Bool.false_ne_true]; exact ⟨Z', e1, F', a', postE.later h s⟩
    | _ => exact h.elim
/-- the test of an if, a while: an if of values there -/
theorem if_runT {t f g : CE} {σ : St} {H : Hp} {Q : Bool → Hp → Prop} (h : tT c (cIf t f g) σ H Q) : tT c t σ H fun b H1 => if b = true then tT c f σ H1 Q else tT c g σ H1 Q := by
  obtain ⟨Z, env, F, a, h⟩ := h
  refine tT.go a ?_
  unfold cIf at h
  cases e : t env with
  | bad => rw [e] at h; exact h
  | exc x e1 => rw [e] at h; exact h
  | ok d e1 =>
    rw [e] at h
    simp only [RE.bind] at h
    cases d with
    | bl b =>
      refine ⟨b, rfl, fun Z' H' F' s a' => ?_⟩
      cases b with
      | true => rw [if_pos rfl]; exact ⟨Z', e1, F', a', postT.later h s⟩
      | false => rw [if_neg Bool.false_ne_true]; exact ⟨Z', e1, F', a', postT.later h s⟩
    | _ => exact h.elim
end

/-! ### loans: slots are frozen for the time of an expression -/
def frzI (fz : List Nat) : Nat → List D → List D
  | _, [] => []
  | n, d :: ds => (if fz.contains n then d.frz else d) :: frzI fz (n + 1) ds
def mrg (fz : List Nat) : Nat → List D → List D → List D
  | n, d :: ds, x :: xs => (if fz.contains n then d else if x.fz = false then x else if D.eqb x d && !x.own then x else .dead) :: mrg fz (n + 1) ds xs
  | _, _, _ => []
def Xc.fz (x : Xc) : Bool := match x.arg with
  | some d => d.fz
  | none => false
def cLoan (fz : List Nat) (f : CE) : CE := fun env => match f (frzI fz 0 env) with
  | .ok d e => if d.fz then .bad else .ok d (mrg fz 0 env e)
  | .exc x e => if x.fz then .bad else .exc x (mrg fz 0 env e)
  | .bad => .bad
/-- .. for good -/
def cFreeze (fz : List Nat) (f : CE) : CE := fun env => f (frzI fz 0 env)
section
variable {K : PySem.W.Frag} {mg : Str → Option Value} {Z : Addr → Prop} {H : Hp}
theorem loan_ind (fz : List Nat) : ∀ (env : List D) (n : Nat) (σ : St) (F : List Addr), RepS K mg Z H env σ F →
    ∃ A F0, F.Perm (A ++ F0) ∧ (∀ Z', (∀ b, Z b → Z' b) → (∀ b ∈ A, Z' b) → RepS K mg Z' H (frzI fz n env) σ F0) ∧
      ∀ (e1 : List D) (F1 : List Addr) (Z1 Z2 : Addr → Prop) (H1 : Hp), RepS K mg Z1 H1 e1 σ F1 → (∀ d v G, (∀ a ∈ G, a ∈ A) → Rep K mg Z H d v G → Rep K mg Z2 H1 d v G) → (A ++ F1).Nodup →
        ∃ F2, RepS K mg Z2 H1 (mrg fz n env e1) σ F2 ∧ F2.Nodup ∧ ∀ a ∈ F2, a ∈ A ++ F1
  | [], n, σ, F, h => by
    obtain ⟨rfl, rfl⟩ := h
    refine ⟨[], [], List.Perm.refl _, fun _ _ _ => ⟨rfl, rfl⟩, fun e1 F1 Z1 Z2 H1 r _ _ => ⟨[], ?_, List.nodup_nil, fun a m => by cases m⟩⟩
    cases e1 with
    | nil => exact ⟨rfl, rfl⟩
    | cons => obtain ⟨s, q, _, _, e, _⟩ := r; cases e
  | d :: ds, n, σ, F, h => by
    obtain ⟨s, q, Fd, Fr, rfl, h1, h2, rfl⟩ := h
    obtain ⟨A, F0, p, hf, hm⟩ := loan_ind fz ds (n + 1) q Fr h2
    have glue : ∀ {P F2 X Y : List Addr}, (X ++ Y).Nodup → P.Nodup → F2.Nodup → (∀ a ∈ P, a ∈ X) → (∀ a ∈ F2, a ∈ Y) → (P ++ F2).Nodup := fun nd n1 n2 i1 i2 =>
      List.nodup_append.mpr ⟨n1, n2, fun a m b k => (List.nodup_append.mp nd).2.2 a (i1 a m) b (i2 b k)⟩
    cases hc : fz.contains n with
    | true =>
      refine ⟨Fd ++ A, F0, (List.Perm.append_left Fd p).trans (by rw [List.append_assoc]), fun Z' hz ha => ?_, fun e1 F1 Z1 Z2 H1 r fr nd => ?_⟩
      · unfold frzI
        rw [hc]
        refine ⟨s, q, [], F0, rfl, ?_, hf Z' hz (fun b m => ha b (List.mem_append_right _ m)), rfl⟩
        rcases h1 with ⟨rfl, rfl⟩ | ⟨v, rfl, h1⟩
        · exact .inl ⟨rfl, rfl⟩
        · exact .inr ⟨v, rfl, Rep.frz hz d v Fd h1 (fun b m => ha b (List.mem_append_left _ m))⟩
      · cases e1 with
        | nil => obtain ⟨e, _⟩ := r; cases e
        | cons x xs =>
          obtain ⟨s', q', Fx, F1', e, x1, x2, rfl⟩ := r
          cases e
          have nd2 : (A ++ F1').Nodup := by
            refine nd.sublist ?_
            refine List.Sublist.append (List.sublist_append_right _ _) (List.sublist_append_right _ _)
          obtain ⟨F2, r2, n2, i2⟩ := hm xs F1' Z1 Z2 H1 x2 (fun d v G hG => fr d v G (fun a m => List.mem_append_right _ (hG a m))) nd2
          refine ⟨Fd ++ F2, ?_, ?_, ?_⟩
          · unfold mrg
            rw [hc]
            refine ⟨s, q, Fd, F2, rfl, ?_, r2, rfl⟩
            rcases h1 with h1 | ⟨v, e, h1⟩
            · exact .inl h1
            · exact .inr ⟨v, e, fr d v Fd (fun a m => List.mem_append_left _ m) h1⟩
          · have nd3 : (Fd ++ (A ++ F1')).Nodup := by
              rw [← List.append_assoc]
              exact nd.sublist (List.Sublist.append_left (List.sublist_append_right _ _) _)
            exact glue nd3 (List.nodup_append.mp nd3).1 n2 (fun _ m => m) i2
          · intro a m
            rcases List.mem_append.mp m with m | m
            · exact List.mem_append_left _ (List.mem_append_left _ m)
            · rcases List.mem_append.mp (i2 a m) with m | m
              · exact List.mem_append_left _ (List.mem_append_right _ m)
              · exact List.mem_append_right _ (List.mem_append_right _ m)
    | false =>
      refine ⟨A, Fd ++ F0, ?_, fun Z' hz ha => ?_, fun e1 F1 Z1 Z2 H1 r fr nd => ?_⟩
      · refine (List.Perm.append_left Fd p).trans ?_
        rw [← List.append_assoc, ← List.append_assoc]
        exact List.Perm.append_right F0 List.perm_append_comm
      · unfold frzI
        rw [hc]
        refine ⟨s, q, Fd, F0, rfl, ?_, hf Z' hz ha, rfl⟩
        rcases h1 with h1 | ⟨v, e, h1⟩
        · exact .inl h1
        · exact .inr ⟨v, e, h1.mono hz⟩
      · cases e1 with
        | nil => obtain ⟨e, _⟩ := r; cases e
        | cons x xs =>
          obtain ⟨s', q', Fx, F1', e, x1, x2, rfl⟩ := r
          cases e
          have nd2 : (A ++ F1').Nodup := nd.sublist (List.Sublist.append_left (List.sublist_append_right _ _) _)
          obtain ⟨F2, r2, n2, i2⟩ := hm xs F1' Z1 Z2 H1 x2 (fun d v G hG => fr d v G hG) nd2
          have up : ∀ a ∈ F2, a ∈ A ++ (Fx ++ F1') := fun a m => by
            rcases List.mem_append.mp (i2 a m) with m | m
            · exact List.mem_append_left _ m
            · exact List.mem_append_right _ (List.mem_append_right _ m)
          unfold mrg
          rw [hc]
          cases hz : x.fz with
          | false =>
            refine ⟨Fx ++ F2, ⟨s, q, Fx, F2, rfl, ?_, r2, rfl⟩, ?_, ?_⟩
            · simp only [if_true, Bool.false_eq_true, if_false]
              rcases x1 with x1 | ⟨v, e, x1⟩
              · exact .inl x1
              · exact .inr ⟨v, e, Rep.clean x v Fx x1 hz⟩
            · have nd3 : (Fx ++ (A ++ F1')).Nodup := by
                have q2 : (A ++ (Fx ++ F1')).Perm (Fx ++ (A ++ F1')) := by
                  rw [← List.append_assoc, ← List.append_assoc]
                  exact List.Perm.append_right F1' List.perm_append_comm
                exact q2.nodup_iff.mp nd
              exact glue nd3 (List.nodup_append.mp nd3).1 n2 (fun _ m => m) i2
            · intro a m
              rcases List.mem_append.mp m with m | m
              · exact List.mem_append_right _ (List.mem_append_left _ m)
              · exact up a m
          | true =>
            cases hq : (D.eqb x d && !x.own) with
            | true =>
              have hq' := Bool.and_eq_true_iff.mp hq
              have ed := D.eq_of_eqb _ _ hq'.1
              subst ed
              have no : x.own = false := by simpa using hq'.2
              refine ⟨F2, ⟨s, q, [], F2, rfl, ?_, r2, rfl⟩, n2, up⟩
              simp only [Bool.false_eq_true, if_false, reduceCtorEq, if_true]
              rcases h1 with ⟨rfl, _⟩ | ⟨v, e, h1⟩
              · exact .inl ⟨rfl, rfl⟩
              · have z := Rep.noown x v Fd h1 no
                subst z
                exact .inr ⟨v, e, fr x v [] (fun a m => by cases m) h1⟩
            | false =>
              refine ⟨F2, ⟨s, q, [], F2, rfl, .inl ⟨by simp [hq], rfl⟩, r2, rfl⟩, n2, up⟩
end
section
variable {c : Vc}
theorem loan_at {fz : List Nat} {σ : St} {H : Hp} {Z : Addr → Prop} {env : List D} {F : List Addr} (a : c.At Z H env σ F) :
    ∃ Z0 F0, c.At Z0 H (frzI fz 0 env) σ F0 ∧ ∀ Z1 H1 e1 G F1, Step Z0 Z1 H H1 F0 (G ++ F1) → c.E Z1 H1 e1 σ F1 →
      ∃ Z2 F2, Step Z Z2 H H1 F (G ++ F2) ∧ c.E Z2 H1 (mrg fz 0 env e1) σ F2 ∧ ∀ d v, d.fz = false → ∀ X, c.R Z1 H1 d v X → c.R Z2 H1 d v X := by
  obtain ⟨A, F0, p, hf, hm⟩ := loan_ind (K := c.K) (mg := c.mg) fz env 0 σ F a.rep
  have wA := a.wd.perm p
  refine ⟨fun b => Z b ∨ b ∈ A, F0, ⟨hf _ (fun b z => .inl z) (fun b m => .inr m), ?_, a.pin⟩, fun Z1 H1 e1 G F1 s r => ?_⟩
  · refine ⟨wA.right.nd, fun b m => ⟨?_, (wA.mu b (List.mem_append_right _ m)).2⟩, ?_⟩
    · rintro (z | z)
      · exact (wA.mu b (List.mem_append_right _ m)).1 z
      · exact wA.dis b z m
    · rintro b (z | z)
      · exact wA.zs b z
      · have q := (wA.mu b (List.mem_append_left _ z)).2
        intro e; rw [e] at q; exact q
  have hAn : ∀ b ∈ A, b ∉ G ++ F1 := fun b m n => by
    rcases s.ff b n with k | k
    · exact wA.dis b m k
    · have q := (wA.mu b (List.mem_append_left _ m)).2; rw [k] at q; exact q
  have ndA : (A ++ F1).Nodup := List.nodup_append.mpr ⟨wA.left.nd, s.wd.right.nd, fun b m b' n e => hAn b m (by rw [e]; exact List.mem_append_right _ n)⟩
  have hxF0 : ∀ b ∈ F0, ¬ Z b ∧ Mut (H b) := fun b m => wA.mu b (List.mem_append_right _ m)
  have zA : ∀ b, Z b → b ∉ A := fun b z m => (wA.mu b (List.mem_append_left _ m)).1 z
  obtain ⟨F2, r2, n2, i2⟩ := hm e1 F1 Z1 (fun b => Z1 b ∧ b ∉ A) H1 r (fun d v X hX rd => Rep.frame s.kp hxF0 (fun b z => ⟨s.zz b (.inl z), zA b z⟩) d v X rd (fun b m n => wA.dis b (hX b m) n)) ndA
  refine ⟨fun b => Z1 b ∧ b ∉ A, F2, ⟨fun b z => ⟨s.zz b (.inl z), zA b z⟩, fun b o e n => s.kp b o e (fun m => n (p.mem_iff.mpr (List.mem_append_right _ m))), ⟨?_, fun b m => ?_, fun b z => s.wd.zs b z.1⟩, fun b m => ?_, fun b z => ?_⟩, r2, fun d v hd X rd => Rep.clean d v X rd hd⟩
  · refine List.nodup_append.mpr ⟨s.wd.left.nd, n2, fun b m b' n e => ?_⟩
    subst e
    rcases List.mem_append.mp (i2 b n) with k | k
    · exact hAn b k (List.mem_append_left _ m)
    · exact s.wd.dis b m k
  · have inA : b ∈ A → ¬ (Z1 b ∧ b ∉ A) ∧ Mut (H1 b) := fun k => by
      refine ⟨fun z => z.2 k, ?_⟩
      have q := (wA.mu b (List.mem_append_left _ k)).2
      cases e : H b with
      | none => rw [e] at q; exact q.elim
      | some o => rw [s.kp b o e (fun m => wA.dis b k m), ← e]; exact q
    have inS : b ∈ G ++ F1 → ¬ (Z1 b ∧ b ∉ A) ∧ Mut (H1 b) := fun k => ⟨fun z => (s.wd.mu b k).1 z.1, (s.wd.mu b k).2⟩
    rcases List.mem_append.mp m with k | k
    · exact inS (List.mem_append_left _ k)
    · rcases List.mem_append.mp (i2 b k) with k | k
      · exact inA k
      · exact inS (List.mem_append_right _ k)
  · have inS : b ∈ G ++ F1 → b ∈ F ∨ H b = none := fun k => by
      rcases s.ff b k with k | k
      · exact .inl (p.mem_iff.mpr (List.mem_append_right _ k))
      · exact .inr k
    rcases List.mem_append.mp m with k | k
    · exact inS (List.mem_append_left _ k)
    · rcases List.mem_append.mp (i2 b k) with k | k
      · exact .inl (p.mem_iff.mpr (List.mem_append_left _ k))
      · exact inS (List.mem_append_right _ k)
  · rcases s.zn b z.1 with (k | k) | k | k
    · exact .inl k
    · exact absurd k z.2
    · exact .inr (.inl (p.mem_iff.mpr (List.mem_append_right _ k)))
    · exact .inr (.inr k)
theorem RepX.clean {K : PySem.W.Frag} {mg : Str → Option Value} {Z Z' : Addr → Prop} {H : Hp} {x : Xc} {cls : Value} {dd : Option Addr} (h : RepX K mg Z H x cls dd) (hz : x.fz = false) : RepX K mg Z' H x cls dd := by
  refine ⟨h.1, ?_⟩
  have h2 := h.2
  unfold Xc.fz at hz
  cases e : x.arg with
  | none => rw [e] at h2; exact h2
  | some d =>
    rw [e] at h2 hz
    obtain ⟨a, v, e1, e2, r⟩ := h2
    exact ⟨a, v, e1, e2, Rep.clean d v [] r hz⟩
theorem loan_run {fz : List Nat} {f : CE} {σ : St} {H : Hp} {Q : VK} (h : tV c (cLoan fz f) σ H Q) : tV c f σ H Q := by
  obtain ⟨Z, env, F, a, h⟩ := h
  obtain ⟨Z0, F0, a0, back⟩ := loan_at (fz := fz) a
  refine ⟨Z0, _, F0, a0, ?_⟩
  unfold cLoan at h
  cases e : f (frzI fz 0 env) with
  | bad => rw [e] at h; exact h
  | ok d e1 =>
    rw [e] at h
    cases hd : d.fz with
    | true => simp [hd] at h; exact h.elim
    | false =>
      simp [hd] at h
      intro Z1 H1 v G F1 s r re
      obtain ⟨Z2, F2, s2, r2, cl⟩ := back Z1 H1 e1 G F1 s re
      exact h Z2 H1 v G F2 s2 (cl d v hd G r) r2
  | exc x e1 =>
    rw [e] at h
    cases hd : x.fz with
    | true => simp [hd] at h; exact h.elim
    | false =>
      simp [hd] at h
      intro Z1 H1 F1 cls dd s re rx
      obtain ⟨Z2, F2, s2, r2, cl⟩ := back Z1 H1 e1 [] F1 s re
      exact h Z2 H1 F2 cls dd s2 r2 (rx.clean hd)
theorem loan_runT {fz : List Nat} {f : CE} {σ : St} {H : Hp} {Q : Bool → Hp → Prop} (h : tT c (cLoan fz f) σ H Q) : tT c f σ H Q := by
  obtain ⟨Z, env, F, a, h⟩ := h
  obtain ⟨Z0, F0, a0, back⟩ := loan_at (fz := fz) a
  refine ⟨Z0, _, F0, a0, ?_⟩
  unfold cLoan at h
  cases e : f (frzI fz 0 env) with
  | bad => rw [e] at h; exact h
  | ok d e1 =>
    rw [e] at h
    cases hd : d.fz with
    | true => simp [hd] at h; exact h.elim
    | false =>
      simp [hd] at h
      obtain ⟨b, eb, h⟩ := h
      refine ⟨b, eb, fun Z1 H1 F1 s re => ?_⟩
      obtain ⟨Z2, F2, s2, r2, cl⟩ := back Z1 H1 e1 [] F1 s re
      exact h Z2 H1 F2 s2 r2
  | exc x e1 =>
    rw [e] at h
    cases hd : x.fz with
    | true => simp [hd] at h; exact h.elim
    | false =>
      simp [hd] at h
      intro Z1 H1 F1 cls dd s re rx
      obtain ⟨Z2, F2, s2, r2, cl⟩ := back Z1 H1 e1 [] F1 s re
      exact h Z2 H1 F2 cls dd s2 r2 (rx.clean hd)
theorem freeze_at {fz : List Nat} {σ : St} {H : Hp} {Z : Addr → Prop} {env : List D} {F : List Addr} (a : c.At Z H env σ F) :
    ∃ Z0 F0, c.At Z0 H (frzI fz 0 env) σ F0 ∧ Step Z Z0 H H F F0 := by
  obtain ⟨A, F0, p, hf, hm⟩ := loan_ind (K := c.K) (mg := c.mg) fz env 0 σ F a.rep
  have s := ((Step.refl a.wd).perm p).freeze
  exact ⟨_, F0, ⟨hf _ (fun b z => .inl z) (fun b m => .inr m), s.wd, a.pin⟩, s⟩
theorem freeze_run {fz : List Nat} {f : CE} {σ : St} {H : Hp} {Q : VK} (h : tV c (cFreeze fz f) σ H Q) : tV c f σ H Q := by
  obtain ⟨Z, env, F, a, h⟩ := h
  obtain ⟨Z0, F0, a0, s⟩ := freeze_at (fz := fz) a
  exact ⟨Z0, _, F0, a0, postE.later h s⟩
theorem freeze_runT {fz : List Nat} {f : CE} {σ : St} {H : Hp} {Q : Bool → Hp → Prop} (h : tT c (cFreeze fz f) σ H Q) : tT c f σ H Q := by
  obtain ⟨Z, env, F, a, h⟩ := h
  obtain ⟨Z0, F0, a0, s⟩ := freeze_at (fz := fz) a
  exact ⟨Z0, _, F0, a0, postT.later h s⟩
end
end VL

set_option Elab.async false
set_option maxRecDepth 100000
/-! VC: operators, comparisons, displays, places, slices. -/
namespace VL
open PySem L2 PySem.Spec PyProof.Rows

section
variable {K : PySem.W.Frag} {mg : Str → Option Value} {Z Z' : Addr → Prop} {H H' : Hp} {F G : List Addr}
theorem Wd.subl (h : Wd Z H F) (s : G.Sublist F) : Wd Z H G := h.sub (h.nd.sublist s) (fun a m => s.subset m)
theorem Step.subl (h : Wd Z H F) (s : G.Sublist F) : Step Z Z H H F G := (Step.refl h).sub (h.nd.sublist s) (fun a m => s.subset m)
theorem Step.fresh (h : Wd Z H F) (s : G.Sublist F) {p : Addr} {o : HO} (hp : H p = none) (mu : Mut (some o)) : Step Z Z H (upd H p o) F (p :: G) := (Step.subl h s).new hp mu
theorem Step.fresh0 (h : Wd Z H F) (s : G.Sublist F) {p : Addr} {o : HO} (hp : H p = none) : Step Z Z H (upd H p o) F G := (Step.subl h s).put hp
theorem Rep.lst {o : Bool} {xs : List D} {v : V} (h : Rep K mg Z H (.lst o xs) v F) : ∃ a vs G, v = .ref a ∧ SqL K H a vs ∧ Reps K mg Z H xs vs G ∧ G.Sublist F := by
  cases o with
  | true =>
    obtain ⟨a, vs, G, e, h1, h2, rfl⟩ := h
    exact ⟨a, vs, G, e, SqL.of h1, h2, List.sublist_cons_self _ _⟩
  | false =>
    obtain ⟨a, vs, e, h1, _, h2, rfl⟩ := h
    exact ⟨a, vs, [], e, h1, h2, List.Sublist.refl _⟩
/-- what is frozen of a list: its items -/
theorem Rep.tup {xs : List D} {v : V} (h : Rep K mg Z H (.tup xs) v F) : ∃ a vs, v = .ref a ∧ SqT K H a vs ∧ Reps K mg Z H xs vs F := by
  obtain ⟨a, vs, e, h1, h2⟩ := h
  exact ⟨a, vs, e, SqT.of h1, h2⟩
theorem KT.sq {K : PySem.W.Frag} {a : Addr} {xs : List V} {H : Hp} (h : SqT K (fun _ => none) a xs) : SqT K H a xs := by
  rcases h with (h | ⟨o, h⟩) | h
  · cases h
  · cases h
  · exact .inr h
theorem Rep.ktp {xs : List D} {v : V} (h : Rep K mg Z H (.ktp xs) v F) : ∃ a vs, v = .ref a ∧ SqT K H a vs ∧ Reps K mg Z H xs vs [] := by
  obtain ⟨a, vs, e, h1, h2, _⟩ := h
  exact ⟨a, vs, e, KT.sq h1, h2⟩
theorem Reps.one_of {d : D} {v : V} (h : Reps K mg Z H [d] [v] F) : Rep K mg Z H d v F := by
  obtain ⟨v', r, F1, F2, e, h1, ⟨e2, rfl⟩, rfl⟩ := h
  cases e
  rw [List.append_nil]; exact h1
theorem Reps.one' {d : D} {vs : List V} (h : Reps K mg Z H [d] vs F) : ∃ v, vs = [v] ∧ Rep K mg Z H d v F := by
  obtain ⟨v', r, F1, F2, rfl, h1, ⟨rfl, rfl⟩, rfl⟩ := h
  exact ⟨v', rfl, by rw [List.append_nil]; exact h1⟩
theorem Reps.two' {d e : D} {vs : List V} (h : Reps K mg Z H [d, e] vs F) : ∃ v w F1 F2, vs = [v, w] ∧ Rep K mg Z H d v F1 ∧ Rep K mg Z H e w F2 ∧ F = F1 ++ F2 := by
  obtain ⟨v, r, F1, F2, rfl, h1, h2, rfl⟩ := h
  obtain ⟨w, rfl, h3⟩ := h2.one'
  exact ⟨v, w, F1, F2, rfl, h1, h3, rfl⟩
theorem Reps.three' {d e f : D} {vs : List V} (h : Reps K mg Z H [d, e, f] vs F) : ∃ v w u F1 F2 F3, vs = [v, w, u] ∧ Rep K mg Z H d v F1 ∧ Rep K mg Z H e w F2 ∧ Rep K mg Z H f u F3 ∧ F = F1 ++ (F2 ++ F3) := by
  obtain ⟨v, r, F1, F2, rfl, h1, h2, rfl⟩ := h
  obtain ⟨w, u, F2, F3, rfl, h3, h4, rfl⟩ := h2.two'
  exact ⟨v, w, u, F1, F2, F3, rfl, h1, h3, h4, rfl⟩
end

/-- a binary operator's reading on a list of two -/
def r2L (r : R2) : List V → Hp → VK → Prop := fun vs H Q => match vs with
  | [x, y] => r x y H Q
  | _ => False
def r1L (r : V → Hp → VK → Prop) : List V → Hp → VK → Prop := fun vs H Q => match vs with
  | [x] => r x H Q
  | _ => False
section
variable {c : Vc} {X : Cx}
theorem se_op {op : Operator} {r : R2} {f : List D → Option D} {a b : Expr} {fa fb : CE} {pos : Pos} (hop : OpR X (binaryOp op) r) (ok : OkF c (r2L r) f) (ha : PE X a (tV c fa)) (hb : PE X b (tV c fb)) :
    PE X (.BinOp a op b pos) (tV c (cApp f [fa, fb])) := (pe_op hop ha hb).imp fun σ H Q h => app_run ok h
theorem se_un {op : UnaryOp} {r : V → Hp → VK → Prop} {f : List D → Option D} {a : Expr} {fa : CE} {pos : Pos} (hop : UnR X (unaryOp op) r) (ok : OkF c (r1L r) f) (ha : PE X a (tV c fa)) :
    PE X (.UnaryOp op a pos) (tV c (cApp f [fa])) := (pe_un hop ha).imp fun σ H Q h => app_run ok h
theorem OpR.or {g : Value → Value → Sem Value} {r r' : R2} (h : OpR X g r) (h' : OpR X g r') : OpR X g (fun x y H Q => r x y H Q ∨ r' x y H Q) := by
  intro pins s σ H x y v u Q I rx ry q
  rcases q with q | q
  · exact h pins s σ H x y v u Q I rx ry q
  · exact h' pins s σ H x y v u Q I rx ry q
end

/-! ### + -/
def dAdd : List D → Option D
  | [.int i, .int j] => some (.int (i + j))
  | [.str x, .str y] => if x.length + y.length ≤ sizeLine then some (.str (x ++ y)) else none
  | [.lst _ xs, .lst _ ys] => if xs.length + ys.length ≤ sizeLine then some (.lst true (xs ++ ys)) else none
  | [.tup xs, .tup ys] => if xs.length + ys.length ≤ sizeLine then some (.tup (xs ++ ys)) else none
  | _ => none
def rCatL (K : PySem.W.Frag) : R2 := fun x y H Q => ∃ l b xs zs, x = .ref l ∧ y = .ref b ∧ SqL K H l xs ∧ SqL K H b zs ∧ xs.length + zs.length ≤ sizeLine ∧ ∀ p, H p = none → Q (.ref p) (upd H p (.lst (xs ++ zs)))
section
variable {X : Cx}
theorem op_catL : OpR X (binaryOp .Add) (rCatL X.K) := by
  intro pins s σ H x y v u Q I rx ry h
  obtain ⟨l, b, xs, zs, rfl, rfl, hH, hB, hz, q⟩ := h
  cases rx
  cases ry
  obtain ⟨its, r, ⟨⟨cls, dd, data, sl⟩, n, ho, hc, hd0, hd⟩, hl⟩ := I.list hH
  obtain ⟨its2, r2, ⟨⟨cls2, dd2, data2, sl2⟩, n2, ho2, hc2, hd02, hd2⟩, hl2⟩ := I.list hB
  simp only at hc hd hc2 hd2
  subst hc hd hc2 hd2
  have e : its.toArray ++ its2.toArray = (its ++ its2).toArray := by simp
  have le1 := r.length
  have le2 := r2.length
  refine concat_meets ⟨_, ho, rfl⟩ ⟨_, ho2, rfl⟩ noFill_list_add seq_list_add PySem.F.slot_list_add PySem.F.entry_list_add (PySem.F.args_list_add_2 _ _) (list_addW l b its.toArray its2.toArray n n2 dd dd2 sl sl2 (by simp; omega)) ⟨ho, ho2, ?_⟩
  rw [e]
  exact ⟨.ref _, _, I.lnew (t' := s.toks) (r.append r2) (by rw [List.length_append]; omega), rfl, q _ I.fresh⟩
end
def rAddAny (K : PySem.W.Frag) : R2 := fun x y H Q => rI0 (fun i j => .int (i + j)) x y H Q ∨ (∃ i j, x = .str i ∧ y = .str j ∧ i.length + j.length ≤ sizeLine ∧ Q (.str (i ++ j)) H) ∨ rCatL K x y H Q ∨ rCatA K x y H Q
theorem op_addAny {X : Cx} : OpR X (binaryOp .Add) (rAddAny X.K) := OpR.or op_add (OpR.or op_add_str (OpR.or op_catL op_catA))
theorem ok_add {c : Vc} : OkF c (r2L (rAddAny c.K)) dAdd := by
  intro Z H ds vs G z Q e r w h
  unfold dAdd at e
  split at e
  · obtain ⟨v, w', F1, F2, rfl, ⟨rfl, rfl⟩, ⟨rfl, rfl⟩, rfl⟩ := r.two'
    cases e
    exact .inl ⟨_, _, rfl, rfl, h Z H _ [] (Step.refl w) ⟨rfl, rfl⟩⟩
  · obtain ⟨v, w', F1, F2, rfl, ⟨rfl, rfl⟩, ⟨rfl, rfl⟩, rfl⟩ := r.two'
    split at e
    · rename_i hl
      cases e
      exact .inr (.inl ⟨_, _, rfl, rfl, hl, h Z H _ [] (Step.refl w) ⟨rfl, rfl⟩⟩)
    · cases e
  · obtain ⟨v, w', F1, F2, rfl, r1, r2, rfl⟩ := r.two'
    obtain ⟨a, us, G1, rfl, s1, q1, l1⟩ := r1.lst
    obtain ⟨b, ws, G2, rfl, s2, q2, l2⟩ := r2.lst
    split at e
    · rename_i hl
      cases e
      refine .inr (.inr (.inl ⟨a, b, us, ws, rfl, rfl, s1, s2, by rw [q1.length, q2.length]; exact hl, fun p hp => ?_⟩))
      exact h Z _ _ _ (Step.fresh w (List.Sublist.append l1 l2) hp mut_lst) ⟨p, us ++ ws, G1 ++ G2, rfl, upd_same, (q1.append q2).new hp, rfl⟩
    · cases e
  · obtain ⟨v, w', F1, F2, rfl, ⟨a, us, rfl, t1, q1⟩, ⟨b, ws, rfl, t2, q2⟩, rfl⟩ := r.two'
    have s1 : SqT c.K H a us := SqT.of t1
    have s2 : SqT c.K H b ws := SqT.of t2
    split at e
    · rename_i hl
      cases e
      refine .inr (.inr (.inr ⟨a, b, us, ws, rfl, rfl, s1, s2, by rw [q1.length, q2.length]; exact hl, fun hx => ?_, fun hx hy => ?_, fun hx hy p hp => ?_⟩))
      · subst hx
        have q := q1.append q2
        exact h Z H _ _ (Step.refl w) ⟨b, ws, rfl, t2, q⟩
      · subst hy
        have q := q1.append q2
        rw [List.append_nil] at q
        exact h Z H _ _ (Step.refl w) ⟨a, us, rfl, t1, q⟩
      · exact h Z _ _ _ (Step.fresh0 w (List.Sublist.refl _) hp) ⟨p, us ++ ws, rfl, upd_same, (q1.append q2).new hp⟩
    · cases e
  · cases e

/-! ### - * // % ** of whole numbers, [..] * n -/
def dSub : List D → Option D
  | [.int i, .int j] => some (.int (i - j))
  | _ => none
def dMul : List D → Option D
  | [.int i, .int j] => if (-(2 ^ 64) < i ∧ i < 2 ^ 64) ∨ (-(2 ^ 64) < j ∧ j < 2 ^ 64) then some (.int (i * j)) else none
  | [.lst true xs, .int k] => if ownL xs = false ∧ -(2 ^ 63) ≤ k ∧ k < 2 ^ 63 ∧ xs.length * k.toNat ≤ sizeLine then some (.lst true (List.replicate k.toNat xs).flatten) else none
  | _ => none
def dDiv : List D → Option D
  | [.int i, .int j] => if 0 < j ∧ j.natAbs.log2 < 9000 then some (.int (i / j)) else none
  | _ => none
def dMod : List D → Option D
  | [.int i, .int j] => if j ≠ 0 then some (.int (i.fmod j)) else none
  | _ => none
def dPow : List D → Option D
  | [.int i, .int j] => if 0 ≤ j ∧ j ≤ 1000000 ∧ i.natAbs < 2 ^ 64 then some (.int (i ^ j.toNat)) else none
  | _ => none
def dNeg : List D → Option D
  | [.int i] => some (.int (-i))
  | _ => none
theorem ok_sub {c : Vc} : OkF c (r2L (rI0 fun i j => .int (i - j))) dSub := by
  intro Z H ds vs G z Q e r w h
  unfold dSub at e
  split at e
  · obtain ⟨v, w', F1, F2, rfl, ⟨rfl, rfl⟩, ⟨rfl, rfl⟩, rfl⟩ := r.two'
    cases e
    exact ⟨_, _, rfl, rfl, h Z H _ [] (Step.refl w) ⟨rfl, rfl⟩⟩
  · cases e
theorem Reps.rep {K : PySem.W.Frag} {mg : Str → Option Value} {Z : Addr → Prop} {H : Hp} {xs : List D} {vs : List V} (h : Reps K mg Z H xs vs []) : ∀ n : Nat, Reps K mg Z H (List.replicate n xs).flatten (List.replicate n vs).flatten []
  | 0 => ⟨rfl, rfl⟩
  | n + 1 => by
    rw [List.replicate_succ, List.replicate_succ, List.flatten_cons, List.flatten_cons]
    exact Reps.append h (Reps.rep h n)
def rMulAny : R2 := fun x y H Q => rI CMul (fun i j => .int (i * j)) x y H Q ∨ rRep x y H Q
theorem op_mulAny {X : Cx} : OpR X (binaryOp .Mult) rMulAny := OpR.or op_mul op_rep
theorem ok_mul {c : Vc} : OkF c (r2L rMulAny) dMul := by
  intro Z H ds vs G z Q e r w h
  unfold dMul at e
  split at e
  · obtain ⟨v, w', F1, F2, rfl, ⟨rfl, rfl⟩, ⟨rfl, rfl⟩, rfl⟩ := r.two'
    split at e
    · rename_i hc
      cases e
      exact .inl ⟨_, _, rfl, rfl, hc, h Z H _ [] (Step.refl w) ⟨rfl, rfl⟩⟩
    · cases e
  · rename_i xs k
    obtain ⟨v, w', F1, F2, rfl, r1, ⟨rfl, rfl⟩, rfl⟩ := r.two'
    split at e
    · rename_i hc
      cases e
      obtain ⟨a, us, G1, rfl, s1, q1, rfl⟩ := r1
      have z := Reps.noown _ _ _ q1 hc.1
      subst z
      refine .inr ⟨a, k, us, rfl, rfl, s1, hc.2.1, hc.2.2.1, by rw [q1.length]; exact hc.2.2.2, fun p hp => ?_⟩
      exact h Z _ _ _ (Step.fresh w (List.nil_sublist _) hp mut_lst) ⟨p, _, [], rfl, upd_same, (q1.rep _).new hp, rfl⟩
    · cases e
  · cases e
/-- two whole numbers -/
theorem ok_int2 {c : Vc} {C : Int → Int → Prop} [∀ i j, Decidable (C i j)] {g : Int → Int → Int} {f : List D → Option D} (hf : ∀ i j, C i j → f [.int i, .int j] = some (.int (g i j)))
    (hn : ∀ ds z, f ds = some z → ∃ i j, ds = [.int i, .int j] ∧ C i j) : OkF c (r2L (rI C fun i j => .int (g i j))) f := by
  intro Z H ds vs G z Q e r w h
  obtain ⟨i, j, rfl, hc⟩ := hn ds z e
  rw [hf i j hc] at e
  cases e
  obtain ⟨v, w', F1, F2, rfl, ⟨rfl, rfl⟩, ⟨rfl, rfl⟩, rfl⟩ := r.two'
  exact ⟨_, _, rfl, rfl, hc, h Z H _ [] (Step.refl w) ⟨rfl, rfl⟩⟩
theorem ok_div {c : Vc} : OkF c (r2L (rI CDivW fun i j => .int (i / j))) dDiv := by
  refine @ok_int2 c (fun i j => 0 < j ∧ j.natAbs.log2 < 9000) (fun i j => inferInstance) (fun i j => i / j) dDiv (fun i j h => by simp [dDiv, h]) (fun ds z e => ?_)
  unfold dDiv at e
  split at e
  · split at e
    · exact ⟨_, _, rfl, by assumption⟩
    · cases e
  · cases e
theorem ok_mod {c : Vc} : OkF c (r2L (rI (fun _ j => j ≠ 0) fun i j => .int (i.fmod j))) dMod := by
  refine @ok_int2 c (fun i j => j ≠ 0) (fun i j => inferInstance) (fun i j => i.fmod j) dMod (fun i j h => by simp [dMod, h]) (fun ds z e => ?_)
  unfold dMod at e
  split at e
  · split at e
    · exact ⟨_, _, rfl, by assumption⟩
    · cases e
  · cases e
theorem ok_pow {c : Vc} : OkF c (r2L (rI CPow fun i j => .int (i ^ j.toNat))) dPow := by
  refine @ok_int2 c (fun i j => 0 ≤ j ∧ j ≤ 1000000 ∧ i.natAbs < 2 ^ 64) (fun i j => inferInstance) (fun i j => i ^ j.toNat) dPow (fun i j h => by simp [dPow, h]) (fun ds z e => ?_)
  unfold dPow at e
  split at e
  · split at e
    · exact ⟨_, _, rfl, by assumption⟩
    · cases e
  · cases e
theorem ok_neg {c : Vc} : OkF c (r1L (rU fun i => .int (-i))) dNeg := by
  intro Z H ds vs G z Q e r w h
  unfold dNeg at e
  split at e
  · obtain ⟨v, rfl, ⟨rfl, rfl⟩⟩ := r.one'
    cases e
    exact ⟨_, rfl, h Z H _ [] (Step.refl w) ⟨rfl, rfl⟩⟩
  · cases e

/-! ### data: what == looks at -/
mutual
def D.dat : D → PyData
  | .bl b => .bool b
  | .int i => .int i
  | .str x => .str x
  | .tup xs => .tuple (datL xs)
  | .ktp xs => .tuple (datL xs)
  | .lst _ xs => .list (datL xs)
  | _ => .none
def datL : List D → List PyData
  | [] => []
  | d :: ds => d.dat :: datL ds
end
mutual
/-- plain data of at most that depth -/
def D.okD : D → Nat → Bool
  | .non, _ => true
  | .bl _, _ => true
  | .int _, _ => true
  | .str x, _ => PyData.strOk x
  | .tup xs, n => match n with
    | 0 => false
    | n + 1 => okDL xs n
  | .ktp xs, n => match n with
    | 0 => false
    | n + 1 => okDL xs n
  | .lst _ xs, n => match n with
    | 0 => false
    | n + 1 => okDL xs n
  | _, _ => false
def okDL : List D → Nat → Bool
  | [], _ => true
  | d :: ds, n => d.okD n && okDL ds n
end
theorem datL_map : ∀ ds : List D, datL ds = ds.map D.dat
  | [] => rfl
  | d :: ds => by simp [datL, datL_map ds]
mutual
theorem okD_dat : ∀ (d : D) (n : Nat), d.okD n = true → d.dat.canLay0 = true ∧ d.dat.depth ≤ n
  | .non, n, _ => ⟨rfl, Nat.zero_le _⟩
  | .bl _, n, _ => ⟨rfl, Nat.zero_le _⟩
  | .int _, n, _ => ⟨rfl, Nat.zero_le _⟩
  | .str _, n, h => ⟨h, Nat.zero_le _⟩
  | .tup xs, 0, h => by simp [D.okD] at h
  | .tup xs, n + 1, h => by
    obtain ⟨h1, h2⟩ := okD_datL xs n (by simpa [D.okD] using h)
    exact ⟨by simpa [D.dat, PyData.canLay0] using h1, by simpa [D.dat, PyData.depth] using h2⟩
  | .ktp xs, 0, h => by simp [D.okD] at h
  | .ktp xs, n + 1, h => by
    obtain ⟨h1, h2⟩ := okD_datL xs n (by simpa [D.okD] using h)
    exact ⟨by simpa [D.dat, PyData.canLay0] using h1, by simpa [D.dat, PyData.depth] using h2⟩
  | .fn _, _, h => by simp [D.okD] at h
  | .lst _ xs, 0, h => by simp [D.okD] at h
  | .lst _ xs, n + 1, h => by
    obtain ⟨h1, h2⟩ := okD_datL xs n (by simpa [D.okD] using h)
    exact ⟨by simpa [D.dat, PyData.canLay0] using h1, by simpa [D.dat, PyData.depth] using h2⟩
  | .dk _ _ _, _, h => by simp [D.okD] at h
  | .dt _ _ _, _, h => by simp [D.okD] at h
  | .ins _ _ _ _, _, h => by simp [D.okD] at h
  | .dead, _, h => by simp [D.okD] at h
theorem okD_datL : ∀ (ds : List D) (n : Nat), okDL ds n = true → PyData.canLayAll0 (datL ds) = true ∧ PyData.depthAll (datL ds) ≤ n
  | [], n, _ => ⟨rfl, Nat.zero_le _⟩
  | d :: ds, n, h => by
    simp [okDL] at h
    obtain ⟨a1, a2⟩ := okD_dat d n h.1
    obtain ⟨b1, b2⟩ := okD_datL ds n h.2
    exact ⟨by simp [datL, PyData.canLayAll0, a1, b1], by simp [datL, PyData.depthAll]; omega⟩
end
theorem okD_shaped {d : D} {n : Nat} (h : d.okD n = true) (hn : n ≤ 64) : SeqAt.shaped d.dat = true := by
  obtain ⟨h1, h2⟩ := okD_dat d n h
  unfold SeqAt.shaped
  rw [h1, Bool.true_and, decide_eq_true_eq]
  omega
section
variable {K : PySem.W.Frag} {mg : Str → Option Value} {Z : Addr → Prop} {H : Hp}
mutual
theorem Rep.dp : ∀ (d : D) (n : Nat) (v : V) (F : List Addr), Rep K mg Z H d v F → d.okD n = true → Dp K H v d.dat
  | .non, _, _, _, h, _ => by obtain ⟨rfl, _⟩ := h; exact .non
  | .bl _, _, _, _, h, _ => by obtain ⟨rfl, _⟩ := h; exact .bl _
  | .int _, _, _, _, h, _ => by obtain ⟨rfl, _⟩ := h; exact .int _
  | .str _, _, _, _, h, _ => by obtain ⟨rfl, _⟩ := h; exact .str _
  | .tup xs, 0, _, _, h, o => by simp [D.okD] at o
  | .tup xs, n + 1, v, F, h, o => by
    obtain ⟨a, vs, rfl, hq, hr⟩ := h.tup
    exact .tup hq (Reps.dp xs n vs F hr (by simpa [D.okD] using o))
  | .ktp xs, 0, _, _, h, o => by simp [D.okD] at o
  | .ktp xs, n + 1, v, F, h, o => by
    obtain ⟨a, vs, rfl, hq, hr⟩ := h.ktp
    exact .tup hq (Reps.dp xs n vs [] hr (by simpa [D.okD] using o))
  | .fn _, _, _, _, _, o => by simp [D.okD] at o
  | .lst _ xs, 0, _, _, h, o => by simp [D.okD] at o
  | .lst p xs, n + 1, v, F, h, o => by
    obtain ⟨a, vs, G, rfl, hq, hr, _⟩ := h.lst
    exact .lst hq (Reps.dp xs n vs G hr (by simpa [D.okD] using o))
  | .dk _ _ _, _, _, _, _, o => by simp [D.okD] at o
  | .dt _ _ _, _, _, _, _, o => by simp [D.okD] at o
  | .ins _ _ _ _, _, _, _, _, o => by simp [D.okD] at o
  | .dead, _, _, _, _, o => by simp [D.okD] at o
theorem Reps.dp : ∀ (ds : List D) (n : Nat) (vs : List V) (F : List Addr), Reps K mg Z H ds vs F → okDL ds n = true → DpAll K H vs (datL ds)
  | [], _, _, _, h, _ => by obtain ⟨rfl, _⟩ := h; exact .nil
  | d :: ds, n, vs, F, h, o => by
    obtain ⟨v, r, F1, F2, rfl, h1, h2, rfl⟩ := h
    simp [okDL] at o
    exact .cons (Rep.dp d n v F1 h1 o.1) (Reps.dp ds n r F2 h2 o.2)
end
end
def deq (x y : D) : Bool := PyData.eqv x.dat y.dat
def dEq : List D → Option D
  | [x, y] => if x.okD 60 && y.okD 60 then some (.bl (deq x y)) else none
  | _ => none
def dNe : List D → Option D
  | [x, y] => if x.okD 60 && y.okD 60 then some (.bl (!deq x y)) else none
  | _ => none
theorem ok_eq {c : Vc} : OkF c (r2L (rEqD c.K)) dEq := by
  intro Z H ds vs G z Q e r w h
  unfold dEq at e
  split at e
  · split at e
    · rename_i ho
      cases e
      simp only [Bool.and_eq_true] at ho
      obtain ⟨v, w', F1, F2, rfl, r1, r2, rfl⟩ := r.two'
      exact ⟨_, _, r1.dp _ _ _ _ ho.1, r2.dp _ _ _ _ ho.2, okD_shaped ho.1 (by decide), okD_shaped ho.2 (by decide), h Z H _ [] (Step.subl w (List.nil_sublist _)) ⟨rfl, rfl⟩⟩
    · cases e
  · cases e
theorem ok_ne {c : Vc} : OkF c (r2L (rNeD c.K)) dNe := by
  intro Z H ds vs G z Q e r w h
  unfold dNe at e
  split at e
  · split at e
    · rename_i ho
      cases e
      simp only [Bool.and_eq_true] at ho
      obtain ⟨v, w', F1, F2, rfl, r1, r2, rfl⟩ := r.two'
      exact ⟨_, _, r1.dp _ _ _ _ ho.1, r2.dp _ _ _ _ ho.2, okD_shaped ho.1 (by decide), okD_shaped ho.2 (by decide), h Z H _ [] (Step.subl w (List.nil_sublist _)) ⟨rfl, rfl⟩⟩
    · cases e
  · cases e

/-! ### in: a sign in a text, data in a list, a tuple; a key in a dict -/
def kOf : D → Option Key
  | .int i => some (.inl i)
  | .str x => some (.inr x)
  | _ => none
def kOfL : List D → Option (List Key)
  | [] => some []
  | d :: ds => match kOf d, kOfL ds with
    | some k, some ks => some (k :: ks)
    | _, _ => none
def dInB : D → D → Option Bool
  | .str ⟨⟨[x]⟩⟩, .str z => some (decide (x ∈ z.cps.toList))
  | x, .lst o ys => if x.okD 60 && okDL ys 59 then some (ys.any fun y => deq y x) else none
  | x, .tup ys => if x.okD 60 && okDL ys 59 then some (ys.any fun y => deq y x) else none
  | x, .dk _ ks _ => (kOf x).map fun k => ks.any fun q => decide (q = k)
  | .tup xs, .dt _ ks _ => (kOfL xs).map fun k => ks.any fun q => decide (q = k)
  | _, _ => none
def dIn : List D → Option D
  | [x, y] => (dInB x y).map .bl
  | _ => none
def dNotIn : List D → Option D
  | [x, y] => (dInB x y).map fun b => .bl !b
  | _ => none
end VL

set_option Elab.async false
set_option maxRecDepth 100000
/-! VD: in, is, order, displays, places, slices, built-in functions, methods. -/
namespace VL
open PySem L2 PySem.Spec PyProof.Rows

/-! ### tables by keys and values apart -/
section
variable {κ : Type} [DecidableEq κ]
def kIx (ks : List κ) (k : κ) : Option Nat := ks.findIdx? fun q => decide (q = k)
theorem valV_zip (k : κ) : ∀ (ks : List κ) (vs : List V), ks.length = vs.length → valV (ks.zip vs) k = (kIx ks k).bind fun i => vs[i]?
  | [], vs, _ => by simp [kIx, valV]
  | q :: ks, [], h => by simp at h
  | q :: ks, v :: vs, h => by
    have ih := valV_zip k ks vs (by simpa using h)
    rw [List.zip_cons_cons]
    by_cases e : q = k
    · rw [valV_pos (p := (q, v)) e]
      simp [kIx, List.findIdx?_cons, e]
    · rw [valV_neg (p := (q, v)) e, ih]
      simp only [kIx, List.findIdx?_cons, decide_eq_false e]
      cases List.findIdx? (fun q => decide (q = k)) ks <;> simp
def kPutK (ks : List κ) (k : κ) : List κ := if (kIx ks k).isSome then ks else ks ++ [k]
def kPutV {α : Type} (ks : List κ) (xs : List α) (k : κ) (x : α) : List α := match kIx ks k with
  | some i => xs.set i x
  | none => xs ++ [x]
theorem kIx_any (k : κ) : ∀ ks : List κ, (kIx ks k).isSome = ks.any fun q => decide (q = k)
  | [] => rfl
  | q :: ks => by
    have ih := kIx_any k ks
    unfold kIx at ih ⊢
    rw [List.findIdx?_cons, List.any_cons]
    by_cases e : q = k
    · simp [e]
    · rw [← ih]
      simp only [e, decide_false, Bool.false_eq_true, if_false, Bool.false_or, Option.isSome_map]
theorem putK_same (k : κ) (v : V) : ∀ (ks : List κ) (vs : List V), k ∉ ks → (ks.zip vs).map (fun kv => if kv.1 = k then (kv.1, v) else kv) = ks.zip vs
  | [], vs, _ => by simp
  | q :: ks, [], _ => by simp
  | q :: ks, w :: vs, h => by
    have h1 : ¬ q = k := fun e => h (by rw [e]; exact List.mem_cons_self)
    rw [List.zip_cons_cons, List.map_cons, putK_same k v ks vs (fun m => h (List.mem_cons_of_mem _ m)), if_neg h1]
theorem putK_at (k : κ) (v : V) : ∀ (ks : List κ) (vs : List V) (i : Nat), ks.Nodup → kIx ks k = some i → (ks.zip vs).map (fun kv => if kv.1 = k then (kv.1, v) else kv) = ks.zip (vs.set i v)
  | [], vs, i, _, e => by simp [kIx] at e
  | q :: ks, [], i, _, _ => by simp
  | q :: ks, w :: vs, i, nd, e => by
    unfold kIx at e
    rw [List.findIdx?_cons] at e
    rw [List.zip_cons_cons, List.map_cons]
    by_cases eq : q = k
    · simp only [eq, decide_true, if_true, Option.some.injEq] at e
      subst e
      rw [if_pos eq, putK_same k v ks vs (by rw [← eq]; exact (List.nodup_cons.mp nd).1)]
      rfl
    · simp only [eq, decide_false, Bool.false_eq_true, if_false] at e
      obtain ⟨j, ej, rfl⟩ := Option.map_eq_some_iff.mp e
      rw [if_neg eq, putK_at k v ks vs j (List.nodup_cons.mp nd).2 ej]
      rfl
theorem putK_zip {k : κ} {v : V} {ks : List κ} {vs : List V} (ok : KOk ks vs) : putK (ks.zip vs) k v = (kPutK ks k).zip (kPutV ks vs k v) := by
  have hz : ((ks.zip vs).any fun kv => decide (kv.1 = k)) = (kIx ks k).isSome := by
    rw [kIx_any]
    have e : (ks.zip vs).map (·.1) = ks := by rw [List.map_fst_zip (Nat.le_of_eq ok.len)]
    conv => rhs; rw [← e]
    rw [List.any_map]
    rfl
  unfold putK kPutK kPutV
  rw [hz]
  cases e : kIx ks k with
  | none =>
    simp only [Option.isSome_none, Bool.false_eq_true, if_false]
    rw [List.zip_append ok.len]
    rfl
  | some i =>
    simp only [Option.isSome_some, if_true]
    exact putK_at k v ks vs i ok.nd e
theorem kIx_none {k : κ} {ks : List κ} (e : kIx ks k = none) : k ∉ ks := by
  intro m
  have h := kIx_any k ks
  rw [e] at h
  have : (ks.any fun q => decide (q = k)) = true := List.any_eq_true.mpr ⟨k, m, by simp⟩
  rw [this] at h
  cases h
theorem kPut_ok {k : κ} {v : V} {ks : List κ} {vs : List V} (ok : KOk ks vs) : KOk (kPutK ks k) (kPutV ks vs k v) := by
  unfold kPutK kPutV
  cases e : kIx ks k with
  | none =>
    simp only [Option.isSome_none, Bool.false_eq_true, if_false]
    refine ⟨by simp [ok.len], List.nodup_append.mpr ⟨ok.nd, by simp, fun a m b n e' => ?_⟩⟩
    have : b = k := by simpa using n
    subst this
    subst e'
    exact kIx_none e m
  | some i =>
    simp only [Option.isSome_some, if_true]
    exact ⟨by simp [ok.len], ok.nd⟩
end

/-! ### in -/
section
variable {K : PySem.W.Frag} {mg : Str → Option Value} {Z : Addr → Prop} {H : Hp}
theorem kOf_rep {d : D} {k : Key} {v : V} {F : List Addr} (e : kOf d = some k) (h : Rep K mg Z H d v F) : v = kV k := by
  unfold kOf at e
  split at e
  · cases e; exact h.1
  · cases e; exact h.1
  · cases e
theorem kOfL_reps : ∀ {ds : List D} {ks : List Key} {vs : List V} {F : List Addr}, kOfL ds = some ks → Reps K mg Z H ds vs F → vs = ks.map kV
  | [], ks, vs, F, e, h => by
    unfold kOfL at e
    cases e
    exact h.1
  | d :: ds, ks, vs, F, e, h => by
    unfold kOfL at e
    split at e
    · rename_i k ks' e1 e2
      cases e
      obtain ⟨v, r, F1, F2, rfl, h1, h2, _⟩ := h
      rw [kOf_rep e1 h1, kOfL_reps e2 h2]
      rfl
    · cases e
theorem Rep.dk {o : Bool} {ks : List Key} {xs : List D} {v : V} {F : List Addr} (h : Rep K mg Z H (.dk o ks xs) v F) : ∃ a vs G, v = .ref a ∧ Rd H a (.dK (ks.zip vs)) ∧ KOk ks vs ∧ Reps K mg Z H xs vs G ∧ G.Sublist F := by
  cases o with
  | true =>
    obtain ⟨a, vs, G, e, h1, h2, h3, rfl⟩ := h
    exact ⟨a, vs, G, e, .inl h1, h2, h3, List.sublist_cons_self _ _⟩
  | false =>
    obtain ⟨a, vs, e, h1, h2, _, h3, rfl⟩ := h
    exact ⟨a, vs, [], e, h1, h2, h3, List.Sublist.refl _⟩
theorem Rep.dt {o : Bool} {ks : List (List Key)} {xs : List D} {v : V} {F : List Addr} (h : Rep K mg Z H (.dt o ks xs) v F) : ∃ a vs G, v = .ref a ∧ Rd H a (.dT (ks.zip vs)) ∧ KOk ks vs ∧ Reps K mg Z H xs vs G ∧ G.Sublist F := by
  cases o with
  | true =>
    obtain ⟨a, vs, G, e, h1, h2, h3, rfl⟩ := h
    exact ⟨a, vs, G, e, .inl h1, h2, h3, List.sublist_cons_self _ _⟩
  | false =>
    obtain ⟨a, vs, e, h1, h2, _, h3, rfl⟩ := h
    exact ⟨a, vs, [], e, h1, h2, h3, List.Sublist.refl _⟩
end
/-- in, with its answer's word -/
def rInAny (K : PySem.W.Frag) (g : Bool → Bool) : R2 := fun x y H Q =>
  (∃ (q : Nat) (z : Str), x = .str ⟨#[q]⟩ ∧ y = .str z ∧ Q (.bl (g (decide (q ∈ z.cps.toList)))) H) ∨
  (∃ d ds, Dp K H x d ∧ Dp K H y (.list ds) ∧ SeqAt.shaped d = true ∧ SeqAt.shaped (.list ds) = true ∧ Q (.bl (g (ds.any fun z => PyData.eqv z d))) H) ∨
  (∃ d ds, Dp K H x d ∧ Dp K H y (.tuple ds) ∧ SeqAt.shaped d = true ∧ SeqAt.shaped (.tuple ds) = true ∧ Q (.bl (g (ds.any fun z => PyData.eqv z d))) H) ∨
  ∃ a o, y = .ref a ∧ DGet H a x o ∧ Q (.bl (g o.isSome)) H
section
variable {X : Cx}
theorem op_inTup (hu : X.A.units + 65 < cLine) : OpR X (compareOp .In) (fun x y H Q => ∃ d ds, Dp X.K H x d ∧ Dp X.K H y (.tuple ds) ∧ SeqAt.shaped d = true ∧ SeqAt.shaped (.tuple ds) = true ∧ Q (.bl (ds.any fun z => PyData.eqv z d)) H) := by
  intro pins s σ H x y v u Q I rx ry h
  obtain ⟨d, ds, hd, he, sd, se, q⟩ := h
  obtain ⟨as, r1⟩ := Dp.reads I d x v hd rx
  obtain ⟨bs, r2⟩ := Dp.reads I (.tuple ds) y u he ry
  exact SeqAt.in_tuple_reads r2 r1 (SeqAt.canLay_of_shaped se) (SeqAt.canLay_of_shaped sd) (room_in_shaped sd hu) ⟨.bl _, H, I, rfl, q⟩
theorem op_notInTup (hu : X.A.units + 65 < cLine) : OpR X (compareOp .NotIn) (fun x y H Q => ∃ d ds, Dp X.K H x d ∧ Dp X.K H y (.tuple ds) ∧ SeqAt.shaped d = true ∧ SeqAt.shaped (.tuple ds) = true ∧ Q (.bl (!ds.any fun z => PyData.eqv z d)) H) := by
  intro pins s σ H x y v u Q I rx ry h
  obtain ⟨d, ds, hd, he, sd, se, q⟩ := h
  obtain ⟨as, r1⟩ := Dp.reads I d x v hd rx
  obtain ⟨bs, r2⟩ := Dp.reads I (.tuple ds) y u he ry
  exact SeqAt.notIn_tuple_reads r2 r1 (SeqAt.canLay_of_shaped se) (SeqAt.canLay_of_shaped sd) (room_in_shaped sd hu) ⟨.bl _, H, I, rfl, q⟩
theorem op_inAny (hu : X.A.units + 65 < cLine) : OpR X (compareOp .In) (rInAny X.K id) := by
  refine OpR.or op_in_sign (OpR.or (op_inD hu) (OpR.or (op_inTup hu) ?_))
  intro pins s σ H x y v u Q I rx ry h
  obtain ⟨a, o, rfl, g, q⟩ := h
  cases ry
  exact d_in (by omega) I g rx fun s' I' => ⟨.bl _, H, I', rfl, q⟩
theorem op_notInAny (hu : X.A.units + 65 < cLine) : OpR X (compareOp .NotIn) (rInAny X.K not) := by
  refine OpR.or op_notIn_sign (OpR.or (op_notInD hu) (OpR.or (op_notInTup hu) ?_))
  intro pins s σ H x y v u Q I rx ry h
  obtain ⟨a, o, rfl, g, q⟩ := h
  cases ry
  exact d_notIn (by omega) I g rx fun s' I' => ⟨.bl _, H, I', rfl, q⟩
end
theorem any_dat (x : D) : ∀ ys : List D, ((datL ys).any fun z => PyData.eqv z x.dat) = ys.any fun y => deq y x
  | [] => rfl
  | y :: ys => by rw [datL, List.any_cons, List.any_cons, any_dat x ys]; rfl
theorem ok_inAny {c : Vc} {g : Bool → Bool} : OkF c (r2L (rInAny c.K g)) (fun ds => match ds with | [x, y] => (dInB x y).map fun b => .bl (g b) | _ => none) := by
  intro Z H ds vs G z Q e r w h
  dsimp only at e
  split at e
  · rename_i x y
    obtain ⟨b, eb, rfl⟩ := Option.map_eq_some_iff.mp e
    obtain ⟨v, u, F1, F2, rfl, r1, r2, rfl⟩ := r.two'
    have fin : Q (.bl (g b)) H := h Z H _ [] (Step.subl w (List.nil_sublist _)) ⟨rfl, rfl⟩
    unfold dInB at eb
    split at eb
    · cases eb
      exact .inl ⟨_, _, r1.1, r2.1, fin⟩
    · split at eb
      · rename_i o ys ho
        cases eb
        simp only [Bool.and_eq_true] at ho
        refine .inr (.inl ⟨_, _, r1.dp _ 60 _ _ ho.1, r2.dp (.lst o ys) 60 _ _ (by simpa [D.okD] using ho.2), okD_shaped ho.1 (by decide), okD_shaped (d := .lst o ys) (n := 60) (by simpa [D.okD] using ho.2) (by decide), ?_⟩)
        rw [any_dat]
        exact fin
      · cases eb
    · split at eb
      · rename_i ys ho
        cases eb
        simp only [Bool.and_eq_true] at ho
        refine .inr (.inr (.inl ⟨_, _, r1.dp _ 60 _ _ ho.1, r2.dp (.tup ys) 60 _ _ (by simpa [D.okD] using ho.2), okD_shaped ho.1 (by decide), okD_shaped (d := .tup ys) (n := 60) (by simpa [D.okD] using ho.2) (by decide), ?_⟩))
        rw [any_dat]
        exact fin
      · cases eb
    · rename_i o ks xs
      obtain ⟨k, ek, rfl⟩ := Option.map_eq_some_iff.mp eb
      obtain ⟨a, us, G, rfl, hd, ok, _, _⟩ := r2.dk
      refine .inr (.inr (.inr ⟨a, valV (ks.zip us) k, rfl, .inl ⟨_, k, hd, kOf_rep ek r1, rfl⟩, ?_⟩))
      have : (valV (ks.zip us) k).isSome = ks.any fun q => decide (q = k) := by
        rw [← valV_any]
        have e : (ks.zip us).map (·.1) = ks := by rw [List.map_fst_zip (Nat.le_of_eq ok.len)]
        conv => rhs; rw [← e]
        rw [List.any_map]
        rfl
      rw [this]
      exact fin
    · rename_i xs o ks ys
      obtain ⟨k, ek, rfl⟩ := Option.map_eq_some_iff.mp eb
      obtain ⟨a, us, G, rfl, hd, ok, _, _⟩ := r2.dt
      obtain ⟨b, ws, rfl, hb, rb⟩ := r1
      have ew := kOfL_reps ek rb
      subst ew
      refine .inr (.inr (.inr ⟨a, valV (ks.zip us) k, rfl, .inr ⟨_, k, b, hd, rfl, hb, rfl⟩, ?_⟩))
      have : (valV (ks.zip us) k).isSome = ks.any fun q => decide (q = k) := by
        rw [← valV_any]
        have e : (ks.zip us).map (·.1) = ks := by rw [List.map_fst_zip (Nat.le_of_eq ok.len)]
        conv => rhs; rw [← e]
        rw [List.any_map]
        rfl
      rw [this]
      exact fin
    · cases eb
  · cases e
theorem ok_in {c : Vc} : OkF c (r2L (rInAny c.K id)) dIn := ok_inAny (g := id)
theorem ok_notIn {c : Vc} : OkF c (r2L (rInAny c.K not)) dNotIn := ok_inAny (g := not)

/-! ### is None; order of whole numbers and of tuples of these -/
def dIs : List D → Option D
  | [x, .non] => if x.isDead then none else some (.bl (match x with | .non => true | _ => false))
  | _ => none
def dIsNot : List D → Option D
  | [x, .non] => if x.isDead then none else some (.bl (match x with | .non => false | _ => true))
  | _ => none
theorem Rep.nonV {K : PySem.W.Frag} {mg : Str → Option Value} {Z : Addr → Prop} {H : Hp} {d : D} {v : V} {F : List Addr} (h : Rep K mg Z H d v F) : decide (v = .non) = (match d with | .non => true | _ => false) := by
  cases d with
  | non => obtain ⟨rfl, _⟩ := h; rfl
  | bl => obtain ⟨rfl, _⟩ := h; rfl
  | int => obtain ⟨rfl, _⟩ := h; rfl
  | str => obtain ⟨rfl, _⟩ := h; rfl
  | tup => obtain ⟨a, vs, rfl, _⟩ := h; rfl
  | ktp => obtain ⟨a, vs, rfl, _⟩ := h; rfl
  | fn => obtain ⟨⟨a, _, rfl⟩, _⟩ := h; rfl
  | lst o => obtain ⟨a, vs, G, rfl, _⟩ := h.lst; rfl
  | dk o => obtain ⟨a, vs, G, rfl, _⟩ := h.dk; rfl
  | dt o => obtain ⟨a, vs, G, rfl, _⟩ := h.dt; rfl
  | ins o =>
    cases o with
    | true => obtain ⟨a, vs, G, c, dx, rfl, _⟩ := h; rfl
    | false => obtain ⟨a, vs, c, dx, rfl, _⟩ := h; rfl
  | dead => exact h.elim
theorem ok_is {c : Vc} : OkF c (r2L (fun x y H Q => y = .non ∧ Q (.bl (decide (x = .non))) H)) dIs := by
  intro Z H ds vs G z Q e r w h
  unfold dIs at e
  split at e
  · obtain ⟨v, u, F1, F2, rfl, r1, ⟨rfl, rfl⟩, rfl⟩ := r.two'
    split at e
    · cases e
    · cases e
      refine ⟨rfl, ?_⟩
      rw [r1.nonV]
      have q := h Z H _ [] (Step.subl w (List.nil_sublist _)) ⟨rfl, rfl⟩
      rename_i x _
      cases x <;> exact q
  · cases e
theorem ok_isNot {c : Vc} : OkF c (r2L (fun x y H Q => y = .non ∧ Q (.bl (!decide (x = .non))) H)) dIsNot := by
  intro Z H ds vs G z Q e r w h
  unfold dIsNot at e
  split at e
  · rename_i x
    obtain ⟨v, u, F1, F2, rfl, r1, ⟨rfl, rfl⟩, rfl⟩ := r.two'
    split at e
    · cases e
    · cases e
      refine ⟨rfl, ?_⟩
      rw [r1.nonV]
      have q := h Z H _ [] (Step.subl w (List.nil_sublist _)) ⟨rfl, rfl⟩
      cases x <;> exact q
  · cases e
def intsOf : List D → Option (List Int)
  | [] => some []
  | .int i :: ds => (intsOf ds).map (i :: ·)
  | _ => none
theorem intsOf_eq : ∀ {ds : List D} {ns : List Int}, intsOf ds = some ns → ds = ns.map D.int
  | [], ns, e => by cases e; rfl
  | d :: ds, ns, e => by
    unfold intsOf at e
    split at e
    · rename_i h; cases h
    · rename_i i ds' h
      cases h
      obtain ⟨ms, em, rfl⟩ := Option.map_eq_some_iff.mp e
      rw [intsOf_eq em]
      rfl
    · cases e
theorem reps_ints {K : PySem.W.Frag} {mg : Str → Option Value} {Z : Addr → Prop} {H : Hp} : ∀ {ns : List Int} {vs : List V} {F : List Addr}, Reps K mg Z H (ns.map D.int) vs F → vs = ns.map V.int
  | [], vs, F, h => h.1
  | n :: ns, vs, F, h => by
    obtain ⟨v, r, F1, F2, rfl, ⟨rfl, _⟩, h2, _⟩ := h
    rw [reps_ints h2]
    rfl
def dLt : List D → Option D
  | [.int i, .int j] => some (.bl (decide (i < j)))
  | [.tup xs, .tup ys] => match intsOf xs, intsOf ys with
    | some ns, some ms => some (.bl (HT.lexLt ns ms))
    | _, _ => none
  | _ => none
def dLe : List D → Option D
  | [.int i, .int j] => some (.bl (decide (i ≤ j)))
  | _ => none
def dGt : List D → Option D
  | [.int i, .int j] => some (.bl (decide (j < i)))
  | _ => none
def dGe : List D → Option D
  | [.int i, .int j] => some (.bl (decide (j ≤ i)))
  | _ => none
def rLtAny (K : PySem.W.Frag) : R2 := fun x y H Q => rI0 (fun i j => .bl (decide (i < j))) x y H Q ∨ rLtT K x y H Q
theorem op_ltAny {X : Cx} (hu : X.A.units < cLine) : OpR X (compareOp .Lt) (rLtAny X.K) := OpR.or op_lt (op_ltT hu)
theorem ok_lt {c : Vc} : OkF c (r2L (rLtAny c.K)) dLt := by
  intro Z H ds vs G z Q e r w h
  unfold dLt at e
  split at e
  · obtain ⟨v, w', F1, F2, rfl, ⟨rfl, rfl⟩, ⟨rfl, rfl⟩, rfl⟩ := r.two'
    cases e
    exact .inl ⟨_, _, rfl, rfl, h Z H _ [] (Step.refl w) ⟨rfl, rfl⟩⟩
  · obtain ⟨v, w', F1, F2, rfl, r1, r2, rfl⟩ := r.two'
    split at e
    · rename_i ns ms e1 e2
      cases e
      have x1 := intsOf_eq e1
      have x2 := intsOf_eq e2
      subst x1 x2
      obtain ⟨a, us, rfl, s1, q1⟩ := r1.tup
      obtain ⟨b, ws, rfl, s2, q2⟩ := r2.tup
      have y1 := reps_ints q1
      have y2 := reps_ints q2
      subst y1 y2
      exact .inr ⟨a, b, ns, ms, rfl, rfl, s1, s2, h Z H _ [] (Step.subl w (List.nil_sublist _)) ⟨rfl, rfl⟩⟩
    · cases e
  · cases e
theorem ok_cmpI {c : Vc} {p : Int → Int → Bool} {f : List D → Option D} (hf : ∀ i j, f [.int i, .int j] = some (.bl (p i j))) (hn : ∀ ds z, f ds = some z → ∃ i j, ds = [.int i, .int j]) : OkF c (r2L (rI0 fun i j => .bl (p i j))) f := by
  intro Z H ds vs G z Q e r w h
  obtain ⟨i, j, rfl⟩ := hn ds z e
  rw [hf] at e
  cases e
  obtain ⟨v, w', F1, F2, rfl, ⟨rfl, rfl⟩, ⟨rfl, rfl⟩, rfl⟩ := r.two'
  exact ⟨_, _, rfl, rfl, h Z H _ [] (Step.refl w) ⟨rfl, rfl⟩⟩
theorem ok_le {c : Vc} : OkF c (r2L (rI0 fun i j => .bl (decide (i ≤ j)))) dLe := ok_cmpI (fun _ _ => rfl) fun ds z e => by
  unfold dLe at e
  split at e
  · exact ⟨_, _, rfl⟩
  · cases e
theorem ok_gt {c : Vc} : OkF c (r2L (rI0 fun i j => .bl (decide (j < i)))) dGt := ok_cmpI (fun _ _ => rfl) fun ds z e => by
  unfold dGt at e
  split at e
  · exact ⟨_, _, rfl⟩
  · cases e
theorem ok_ge {c : Vc} : OkF c (r2L (rI0 fun i j => .bl (decide (j ≤ i)))) dGe := ok_cmpI (fun _ _ => rfl) fun ds z e => by
  unfold dGe at e
  split at e
  · exact ⟨_, _, rfl⟩
  · cases e
section
variable {c : Vc} {X : Cx} {a b d : Expr} {fa fb fd : CE} {pos : Pos} {r r' : R2} {f f' : List D → Option D} {op op' : CmpOp}
theorem se_cmp (hop : OpR X (compareOp op) r) (ok : OkF c (r2L r) f) (ha : PE X a (tV c fa)) (hb : PE X b (tV c fb)) (hm : behindInMarks op b = false) : PE X (.Compare a [op] [b] pos) (tV c (cApp f [fa, fb])) :=
  (pe_cmpR hop ha hb hm).imp fun σ H Q h => app_run ok h
theorem st_cmp (hop : OpR X (compareOp op) r) (ok : OkF c (r2L r) f) (ha : PE X a (tV c fa)) (hb : PE X b (tV c fb)) (hm : behindInMarks op b = false) : PT X (.Compare a [op] [b] pos) (tT c (cApp f [fa, fb])) :=
  (pt_cmpR hop ha hb hm).imp fun σ H Q h => app_run ok (tT.of_tV h)
end
end VL

set_option Elab.async false
set_option maxRecDepth 100000
/-! VE: chains, displays, places, slices, built-in functions and methods. -/
namespace VL
open PySem L2 PySem.Spec PyProof.Rows

/-! ### a < b < c of whole numbers -/
def cChain (f f' : List D → Option D) (fa fb fc : CE) : CE := fun env => (fa env).bind fun x e1 => (fb e1).bind fun y e2 => match x, y with
  | .int i, .int j => match f [.int i, .int j] with
    | some (.bl true) => (fc e2).bind fun z e3 => match z with
      | .int k => match f' [.int j, .int k] with
        | some (.bl b) => .ok (.bl b) e3
        | _ => .bad
      | _ => .bad
    | some (.bl false) => .ok (.bl false) e2
    | _ => .bad
  | _, _ => .bad
section
variable {c : Vc}
theorem chain_run {f f' : List D → Option D} {p p' : Int → Int → Bool} {fa fb fc : CE} (hf : ∀ i j, f [.int i, .int j] = some (.bl (p i j))) (hf' : ∀ i j, f' [.int i, .int j] = some (.bl (p' i j))) {σ : L2.St} {H : Hp} {Q : VK}
    (h : tV c (cChain f f' fa fb fc) σ H Q) : tChain (rI0 fun i j => .bl (p i j)) (rI0 fun i j => .bl (p' i j)) (tV c fa) (tV c fb) (tV c fc) σ H Q := by
  obtain ⟨Z, env, F, a, h⟩ := h
  refine tV.go a ?_
  unfold cChain at h
  cases e : fa env with
  | bad => rw [e] at h; exact h
  | exc x e1 => rw [e] at h; exact h
  | ok x e1 =>
    rw [e] at h
    simp only [RE.bind] at h
    intro Z1 H1 v G F1 s r a1
    refine tV.go a1 ?_
    cases e' : fb e1 with
    | bad => rw [e'] at h; exact h
    | exc x e1 => rw [e'] at h; exact postX.later h s
    | ok y e2 =>
      rw [e'] at h
      simp only at h
      intro Z2 H2 w G2 F2 s2 r2 a2
      split at h
      · rename_i i j
        obtain ⟨rfl, rfl⟩ := r
        obtain ⟨rfl, rfl⟩ := r2
        have s12 : Step Z Z2 H H2 F F2 := s.trans s2
        refine ⟨i, j, rfl, rfl, p i j, rfl, ?_⟩
        rw [hf] at h
        cases hp : p i j with
        | false =>
          rw [if_neg Bool.false_ne_true]
          rw [hp] at h
          exact h Z2 H2 _ [] F2 s12 ⟨rfl, rfl⟩ a2.rep
        | true =>
          rw [if_pos rfl]
          rw [hp] at h
          simp only at h
          refine tV.go a2 ?_
          cases e3 : fc e2 with
          | bad => rw [e3] at h; exact h
          | exc x e4 => rw [e3] at h; exact postX.later (A := []) h s12
          | ok z e4 =>
            rw [e3] at h
            simp only [hf'] at h
            intro Z3 H3 u G3 F3 s3 r3 a3
            split at h
            · rename_i k
              obtain ⟨rfl, rfl⟩ := r3
              exact ⟨j, k, rfl, rfl, h Z3 H3 _ [] F3 (s12.trans s3) ⟨rfl, rfl⟩ a3.rep⟩
            · exact h.elim
      · exact h.elim
variable {X : Cx} {a b d : Expr} {fa fb fd : CE} {pos : Pos} {op op' : CmpOp} {f f' : List D → Option D} {p p' : Int → Int → Bool}
theorem se_chain (hop : OpR X (compareOp op) (rI0 fun i j => .bl (p i j))) (hop' : OpR X (compareOp op') (rI0 fun i j => .bl (p' i j))) (hf : ∀ i j, f [.int i, .int j] = some (.bl (p i j))) (hf' : ∀ i j, f' [.int i, .int j] = some (.bl (p' i j)))
    (ha : PE X a (tV c fa)) (hb : PE X b (tV c fb)) (hd : PE X d (tV c fd)) (hm : lastMarks [op, op'] [b, d] = false) : PE X (.Compare a [op, op'] [b, d] pos) (tV c (cChain f f' fa fb fd)) :=
  (pe_chain hop hop' ha hb hd hm).imp fun σ H Q h => chain_run hf hf' h
theorem st_chain (hop : OpR X (compareOp op) (rI0 fun i j => .bl (p i j))) (hop' : OpR X (compareOp op') (rI0 fun i j => .bl (p' i j))) (hf : ∀ i j, f [.int i, .int j] = some (.bl (p i j))) (hf' : ∀ i j, f' [.int i, .int j] = some (.bl (p' i j)))
    (ha : PE X a (tV c fa)) (hb : PE X b (tV c fb)) (hd : PE X d (tV c fd)) (hm : lastMarks [op, op'] [b, d] = false) : PT X (.Compare a [op, op'] [b, d] pos) (tT c (cChain f f' fa fb fd)) :=
  (pt_chain hop hop' ha hb hd hm).imp fun σ H Q h => chain_run hf hf' (tT.of_tV h)
end

/-! ### displays -/
def dLst : List D → Option D := fun ds => if ds.length ≤ sizeLine then some (.lst true ds) else none
def dTup : List D → Option D := fun ds => if ds.length ≤ sizeLine then some (.tup ds) else none
def cNewK : CE := fun env => .ok (.dk true [] []) env
def cNewT : CE := fun env => .ok (.dt true [] []) env
section
variable {c : Vc} {X : Cx} {pos : Pos}
theorem ok_lst : OkF c (fun xs H Q => xs.length ≤ sizeLine ∧ ∀ p, H p = none → Q (.ref p) (upd H p (.lst xs))) dLst := by
  intro Z H ds vs G z Q e r w h
  unfold dLst at e
  split at e
  · rename_i hl
    cases e
    refine ⟨by rw [r.length]; exact hl, fun p hp => ?_⟩
    exact h Z _ _ _ (Step.fresh w (List.Sublist.refl _) hp mut_lst) ⟨p, vs, G, rfl, upd_same, r.new hp, rfl⟩
  · cases e
theorem ok_tup : OkF c (fun xs H Q => xs.length ≤ sizeLine ∧ ∀ p, H p = none → Q (.ref p) (upd H p (.tup xs))) dTup := by
  intro Z H ds vs G z Q e r w h
  unfold dTup at e
  split at e
  · rename_i hl
    cases e
    refine ⟨by rw [r.length]; exact hl, fun p hp => ?_⟩
    exact h Z _ _ _ (Step.fresh0 w (List.Sublist.refl _) hp) ⟨p, vs, rfl, upd_same, r.new hp⟩
  · cases e
theorem se_lst {es : List Expr} {fs : List CE} (h : PA X es (tAs c fs)) : PE X (.List es pos) (tV c (cApp dLst fs)) := (pe_lst h).imp fun σ H Q h => app_run ok_lst h
theorem se_tup {es : List Expr} {fs : List CE} {x1 : Nat} (h : PA X es (tAs c fs)) : PE X (.Tuple es x1 pos) (tV c (cApp dTup fs)) := (pe_tup h).imp fun σ H Q h => app_run ok_tup h
theorem se_newK : PE X (.Dict [] [] pos) (tV c cNewK) := pe_dnewK.imp fun σ H Q ⟨Z, env, F, a, h⟩ p hp => by
  have s := (Step.refl a.wd).new (o := .dK []) hp trivial
  exact h Z _ _ [p] F s ⟨p, [], [], rfl, upd_same, ⟨rfl, List.nodup_nil⟩, Reps.nil, rfl⟩ (RepS.frame (Kp.new hp) (fun b m => by cases m) (fun _ z => z) a.rep (fun b _ m => by cases m))
theorem se_newT : PE X (.Dict [] [] pos) (tV c cNewT) := pe_dnewT.imp fun σ H Q ⟨Z, env, F, a, h⟩ p hp => by
  have s := (Step.refl a.wd).new (o := .dT []) hp trivial
  exact h Z _ _ [p] F s ⟨p, [], [], rfl, upd_same, ⟨rfl, List.nodup_nil⟩, Reps.nil, rfl⟩ (RepS.frame (Kp.new hp) (fun b m => by cases m) (fun _ z => z) a.rep (fun b _ m => by cases m))
end

/-! ### places -/
section
variable {K : PySem.W.Frag} {mg : Str → Option Value} {Z : Addr → Prop} {H : Hp}
theorem Reps.getS : ∀ {ds : List D} {vs : List V} {F : List Addr} {i : Nat} {d : D}, Reps K mg Z H ds vs F → ds[i]? = some d → ∃ v F1, vs[i]? = some v ∧ Rep K mg Z H d v F1 ∧ F1.Sublist F
  | [], _, _, _, _, _, e => by simp at e
  | d :: ds, vs, F, 0, x, h, e => by
    obtain ⟨v, r, F1, F2, rfl, h1, h2, rfl⟩ := h
    simp at e; subst e
    exact ⟨v, F1, rfl, h1, List.sublist_append_left _ _⟩
  | d :: ds, vs, F, i + 1, x, h, e => by
    obtain ⟨v, r, F1, F2, rfl, h1, h2, rfl⟩ := h
    obtain ⟨w, G, e1, e2, e3⟩ := Reps.getS (i := i) h2 (by simpa using e)
    exact ⟨w, G, by simpa using e1, e2, e3.trans (List.sublist_append_right _ _)⟩
theorem Reps.atI {ds : List D} {vs : List V} {F : List Addr} {i : Int} {d : D} (h : Reps K mg Z H ds vs F) (e : atI ds i = some d) : ∃ v F1, atI vs i = some v ∧ Rep K mg Z H d v F1 ∧ F1.Sublist F := by
  unfold L2.atI at e ⊢
  rw [h.length]
  obtain ⟨j, ej, e⟩ := Option.bind_eq_some_iff.mp e
  obtain ⟨v, F1, e1, e2, e3⟩ := h.getS e
  exact ⟨v, F1, by rw [ej]; exact e1, e2, e3⟩
end
def dIx : List D → Option D
  | [.lst _ xs, .int i] => atI xs i
  | [.tup xs, .int i] => atI xs i
  | [.ktp xs, .int i] => atI xs i
  | [.str z, .int i] => if z.length ≤ sizeLine then (atI z.cps.toList i).map fun q => .str ⟨#[q]⟩ else none
  | [.dk _ ks xs, k] => (kOf k).bind fun k => (kIx ks k).bind fun i => xs[i]?
  | [.dt _ ks xs, .tup k] => (kOfL k).bind fun k => (kIx ks k).bind fun i => xs[i]?
  | _ => none
def rIxD : R2 := fun x y H Q => ∃ a v, x = .ref a ∧ DGet H a y (some v) ∧ Q v H
def rIxAny (K : PySem.W.Frag) : R2 := fun x y H Q => (rIxL K x y H Q ∨ rIxT K x y H Q ∨ rIxS x y H Q) ∨ rIxD x y H Q
theorem ix_dict {X : Cx} (hu : X.A.units + 1 < cLine) : IxR X rIxD := by
  intro value slice pins s σ H x y v u Q I rx ry h hs
  obtain ⟨a, z, rfl, g, q⟩ := h
  cases rx
  have hT := dict_typeIs I g
  have hq : wpAny (model X.prog X.w) X.A (getItem (.ref a) u) (EP X pins σ Q) X.xe s := d_getItem hu I g ry fun w' s3 I3 rw' => ⟨z, H, I3, rw', q⟩
  unfold subscriptTail
  refine wpAny_bind ?_
  rw [getitemInPython_of_ne hT.not_modules]
  refine wpAny_bind (wpAny_specialOf hT PySem.F.slot_dict_getitem.lookup ?_)
  have fin : wpAny (model X.prog X.w) X.A (subscripted slice false (.ref a) u) (fun r s₃ => wpAny (model X.prog X.w) X.A (letTemporaryGo value (.ref a) r >>= fun _ => pure r) (EP X pins σ Q) X.xe s₃) X.xe s := by
    rw [hs]
    refine wpAny_operating (wpAny_mono hq (fun r s₃ h₃ => ?_) fun _ _ x => x)
    exact wpAny_bind (wpAny_letTemporaryGo (wpAny_pure h₃))
  first
    | exact wpAny_pure (wpAny_bind fin)
    | exact wpAny_bind (wpAny_pure (wpAny_bind fin))
    | exact wpAny_bind fin
theorem ix_any {X : Cx} (hu : X.A.units + 1 < cLine) : IxR X (rIxAny X.K) := IxR.or ix_seq (ix_dict hu)
theorem ok_ix {c : Vc} : OkF c (r2L (rIxAny c.K)) dIx := by
  intro Z H ds vs G z Q e r w h
  unfold dIx at e
  split at e
  · obtain ⟨v, u, F1, F2, rfl, r1, ⟨rfl, rfl⟩, rfl⟩ := r.two'
    obtain ⟨a, us, G1, rfl, s1, q1, l1⟩ := r1.lst
    obtain ⟨v, F3, e1, r3, l3⟩ := q1.atI e
    exact .inl (.inl ⟨a, us, _, v, rfl, rfl, s1, e1, h Z H v F3 (Step.subl w (by rw [List.append_nil]; exact l3.trans l1)) r3⟩)
  · obtain ⟨v, u, F1, F2, rfl, r1, ⟨rfl, rfl⟩, rfl⟩ := r.two'
    obtain ⟨a, us, rfl, s1, q1⟩ := r1.tup
    obtain ⟨v, F3, e1, r3, l3⟩ := q1.atI e
    exact .inl (.inr (.inl ⟨a, us, _, v, rfl, rfl, s1, e1, h Z H v F3 (Step.subl w (by rw [List.append_nil]; exact l3)) r3⟩))
  · obtain ⟨v, u, F1, F2, rfl, r1, ⟨rfl, rfl⟩, rfl⟩ := r.two'
    obtain ⟨a, us, rfl, s1, q1⟩ := r1.ktp
    obtain ⟨v, F3, e1, r3, l3⟩ := q1.atI e
    exact .inl (.inr (.inl ⟨a, us, _, v, rfl, rfl, s1, e1, h Z H v F3 (Step.subl w (l3.trans (List.nil_sublist _))) r3⟩))
  · split at e
    · rename_i hl
      obtain ⟨q, eq, rfl⟩ := Option.map_eq_some_iff.mp e
      obtain ⟨v, u, F1, F2, rfl, ⟨rfl, rfl⟩, ⟨rfl, rfl⟩, rfl⟩ := r.two'
      exact .inl (.inr (.inr ⟨_, _, q, rfl, rfl, hl, eq, h Z H _ [] (Step.refl w) ⟨rfl, rfl⟩⟩))
    · cases e
  · obtain ⟨k, ek, e⟩ := Option.bind_eq_some_iff.mp e
    obtain ⟨i, ei, e⟩ := Option.bind_eq_some_iff.mp e
    obtain ⟨v, u, F1, F2, rfl, r1, r2, rfl⟩ := r.two'
    obtain ⟨a, us, G1, rfl, hd, ok, q1, l1⟩ := r1.dk
    obtain ⟨v, F3, e1, r3, l3⟩ := q1.getS e
    refine .inr ⟨a, v, rfl, .inl ⟨_, k, hd, kOf_rep ek r2, ?_⟩, h Z H v F3 (Step.subl w (l3.trans (l1.trans (List.sublist_append_left _ _)))) r3⟩
    rw [valV_zip k _ _ ok.len, ei]
    exact e1.symm
  · obtain ⟨k, ek, e⟩ := Option.bind_eq_some_iff.mp e
    obtain ⟨i, ei, e⟩ := Option.bind_eq_some_iff.mp e
    obtain ⟨v, u, F1, F2, rfl, r1, ⟨b, ws, rfl, hb, rb⟩, rfl⟩ := r.two'
    obtain ⟨a, us, G1, rfl, hd, ok, q1, l1⟩ := r1.dt
    obtain ⟨v, F3, e1, r3, l3⟩ := q1.getS e
    have ew := kOfL_reps ek rb
    subst ew
    refine .inr ⟨a, v, rfl, .inr ⟨_, k, b, hd, rfl, hb, ?_⟩, h Z H v F3 (Step.subl w (l3.trans (l1.trans (List.sublist_append_left _ _)))) r3⟩
    rw [valV_zip k _ _ ok.len, ei]
    exact e1.symm
  · cases e
theorem se_ix {c : Vc} {X : Cx} {a b : Expr} {fa fb : CE} {pos : Pos} (hu : X.A.units + 1 < cLine) (hk : X.K = c.K) (ha : PE X a (tV c fa)) (hb : PE X b (tV c fb)) (hs : PlainIx b) : PE X (.Subscript a b pos) (tV c (cApp dIx [fa, fb])) :=
  (pe_ix (ix_any hu) ha hb hs).imp fun σ H Q h => by rw [hk]; exact app_run ok_ix h

/-! ### slices -/
def cInt (f : CE) : CE := fun env => (f env).bind fun d e => match d with
  | .int i => .ok (.int i) e
  | _ => .bad
def dCut (xs : List D) (lo hi : Option Int) : List D := (xs.drop (HT.sIx xs.length 0 lo)).take (HT.sIx xs.length xs.length hi - HT.sIx xs.length 0 lo)
def dSlB : D → Option Int → Option Int → Option D
  | .lst _ xs, lo, hi => if ownL xs then none else some (.lst true (dCut xs lo hi))
  | .tup xs, lo, hi => if ownL xs then none else some (.tup (dCut xs lo hi))
  | .ktp xs, lo, hi => if HT.sIx xs.length 0 lo = 0 ∧ HT.sIx xs.length xs.length hi = xs.length then some (.ktp xs) else some (.tup (dCut xs lo hi))
  | .str z, lo, hi => if z.length ≤ sizeLine then some (.str (cutS z lo hi)) else none
  | _, _, _ => none
def dSl (l u : Bool) : List D → Option D
  | [x] => if !l && !u then dSlB x none none else none
  | [x, .int i] => if l && !u then dSlB x (some i) none else if !l && u then dSlB x none (some i) else none
  | [x, .int i, .int j] => if l && u then dSlB x (some i) (some j) else none
  | _ => none
def cSl (o : CE) (lo hi : Option CE) : CE := cApp (dSl lo.isSome hi.isSome) (o :: (lo.map cInt).toList ++ (hi.map cInt).toList)
def rSlAny (K : PySem.W.Frag) : V → Option Int → Option Int → Hp → VK → Prop := fun x lo hi H Q => (rSlL K x lo hi H Q ∨ rSlA K x lo hi H Q) ∨ rSlS x lo hi H Q
theorem sl_any {X : Cx} : SlR X (rSlAny X.K) := SlR.or (SlR.or sl_list sl_tupA) sl_str
section
variable {K : PySem.W.Frag} {mg : Str → Option Value} {Z : Addr → Prop} {H : Hp}
theorem Reps.drop : ∀ (n : Nat) {ds : List D} {vs : List V}, Reps K mg Z H ds vs [] → Reps K mg Z H (ds.drop n) (vs.drop n) []
  | 0, _, _, h => h
  | n + 1, [], vs, h => by obtain ⟨rfl, _⟩ := h; exact ⟨rfl, rfl⟩
  | n + 1, d :: ds, vs, h => by
    obtain ⟨v, r, F1, F2, rfl, h1, h2, e⟩ := h
    have e2 := List.append_eq_nil_iff.mp e.symm
    rw [e2.2] at h2
    exact Reps.drop n h2
theorem Reps.take : ∀ (n : Nat) {ds : List D} {vs : List V}, Reps K mg Z H ds vs [] → Reps K mg Z H (ds.take n) (vs.take n) []
  | 0, _, _, h => ⟨by simp, rfl⟩
  | n + 1, [], vs, h => by obtain ⟨rfl, _⟩ := h; exact ⟨rfl, rfl⟩
  | n + 1, d :: ds, vs, h => by
    obtain ⟨v, r, F1, F2, rfl, h1, h2, e⟩ := h
    have e2 := List.append_eq_nil_iff.mp e.symm
    rw [e2.1] at h1
    rw [e2.2] at h2
    exact ⟨v, _, [], [], rfl, h1, Reps.take n h2, rfl⟩
theorem Reps.cut {ds : List D} {vs : List V} (h : Reps K mg Z H ds vs []) (lo hi : Option Int) : Reps K mg Z H (dCut ds lo hi) (cutV vs lo hi) [] := by
  have hl := h.length
  unfold dCut cutV
  rw [hl]
  exact (h.drop _).take _
end
/-- a slice by values -/
theorem slB {c : Vc} {Z : Addr → Prop} {H : Hp} {x : D} {v : V} {F : List Addr} {lo hi : Option Int} {z : D} {Q : VK} (e : dSlB x lo hi = some z) (r : c.R Z H x v F) (w : Wd Z H F) (h : ∀ Z' H' u G', Step Z Z' H H' F G' → c.R Z' H' z u G' → Q u H') : rSlAny c.K v lo hi H Q := by
  unfold dSlB at e
  split at e
  · split at e
    · cases e
    · rename_i ho
      cases e
      obtain ⟨a, us, G1, rfl, s1, q1, l1⟩ := r.lst
      have g := Reps.noown _ _ _ q1 (by simpa using ho)
      subst g
      exact .inl (.inl ⟨a, us, rfl, s1, fun p hp => h Z _ _ _ (Step.fresh w (List.nil_sublist _) hp mut_lst) ⟨p, _, [], rfl, upd_same, (q1.cut _ _).new hp, rfl⟩⟩)
  · split at e
    · cases e
    · rename_i ho
      cases e
      obtain ⟨a, us, rfl, s1, q1⟩ := r
      have g := Reps.noown _ _ _ q1 (by simpa using ho)
      subst g
      refine .inl (.inr ⟨a, us, rfl, SqT.of s1, fun hw => ?_, fun hw p hp => h Z _ _ _ (Step.fresh0 w (List.nil_sublist _) hp) ⟨p, _, rfl, upd_same, (q1.cut _ _).new hp⟩⟩)
      refine h Z H _ [] (Step.refl w) ⟨a, us, rfl, s1, ?_⟩
      have hl := q1.length
      unfold dCut
      rw [hl] at hw
      rw [hw.1, hw.2, List.drop_zero, Nat.sub_zero, List.take_length]
      exact q1
  · obtain ⟨a, us, rfl, s1, q1, rfl⟩ := r
    have hl := q1.length
    split at e
    · rename_i hw
      cases e
      rw [← hl] at hw
      exact .inl (.inr ⟨a, us, rfl, KT.sq s1, fun _ => h Z H _ [] (Step.refl w) ⟨a, us, rfl, s1, q1, rfl⟩, fun hn => absurd hw hn⟩)
    · rename_i hw
      cases e
      rw [← hl] at hw
      exact .inl (.inr ⟨a, us, rfl, KT.sq s1, fun hy => absurd hy hw, fun _ p hp => h Z _ _ _ (Step.fresh0 w (List.nil_sublist _) hp) ⟨p, _, rfl, upd_same, (q1.cut _ _).new hp⟩⟩)
  · split at e
    · rename_i hl
      cases e
      obtain ⟨rfl, rfl⟩ := r
      exact .inr ⟨_, rfl, hl, h Z H _ [] (Step.refl w) ⟨rfl, rfl⟩⟩
    · cases e
  · cases e
theorem int_run {c : Vc} {f : CE} {σ : L2.St} {H : Hp} {Q : Int → Hp → Prop} (h : tV c (cInt f) σ H fun x H1 => ∃ i, x = .int i ∧ Q i H1) : tV c f σ H fun x H1 => ∃ i, x = .int i ∧ Q i H1 := by
  obtain ⟨Z, env, F, a, h⟩ := h
  refine tV.go a ?_
  unfold cInt at h
  cases e : f env with
  | bad => rw [e] at h; exact h
  | exc x e1 => rw [e] at h; exact h
  | ok x e1 =>
    rw [e] at h
    simp only [RE.bind] at h
    intro Z1 H1 v G F1 s r a1
    cases x with
    | int i =>
      obtain ⟨rfl, rfl⟩ := r
      exact h Z1 H1 _ [] F1 s ⟨rfl, rfl⟩ a1.rep
    | _ => exact h.elim
theorem tV.int {c : Vc} {f : CE} {σ : L2.St} {H : Hp} {Q : VK} (h : tV c (cInt f) σ H Q) : tV c f σ H fun x H1 => ∃ i, x = .int i ∧ Q (.int i) H1 := by
  refine int_run (Q := fun i H1 => Q (.int i) H1) ?_
  obtain ⟨Z, env, F, a, h⟩ := h
  refine ⟨Z, env, F, a, ?_⟩
  unfold cInt at h ⊢
  cases e : f env with
  | bad => rw [e] at h; exact h
  | exc x e1 => rw [e] at h; exact h
  | ok x e1 =>
    rw [e] at h
    simp only [RE.bind] at h ⊢
    cases x with
    | int i =>
      intro Z1 H1 v G F1 s r a1
      obtain ⟨rfl, rfl⟩ := r
      exact ⟨i, rfl, h Z1 H1 _ [] F1 s ⟨rfl, rfl⟩ a1⟩
    | _ => exact h.elim
section
variable {c : Vc} {X : Cx} {o a b : Expr} {fo fa fb : CE} {pos p2 : Pos}
theorem ok_sl (l u : Bool) : OkF c (fun vs H Q => match vs with
    | [x] => (l = false ∧ u = false → rSlAny c.K x none none H Q) ∧ (l = false ∧ u = false)
    | [x, y] => ∃ i, y = .int i ∧ ((l = true ∧ u = false ∧ rSlAny c.K x (some i) none H Q) ∨ (l = false ∧ u = true ∧ rSlAny c.K x none (some i) H Q))
    | [x, y, z] => ∃ i j, y = .int i ∧ z = .int j ∧ rSlAny c.K x (some i) (some j) H Q
    | _ => False) (dSl l u) := by
  intro Z H ds vs G z Q e r w h
  unfold dSl at e
  split at e
  · obtain ⟨v, rfl, r1⟩ := r.one'
    split at e
    · rename_i hc
      have hc' : l = false ∧ u = false := by cases l <;> cases u <;> simp at hc ⊢
      exact ⟨fun _ => slB e r1 w h, hc'⟩
    · cases e
  · obtain ⟨v, u', F1, F2, rfl, r1, ⟨rfl, rfl⟩, rfl⟩ := r.two'
    rw [List.append_nil] at w h
    cases l with
    | true =>
      cases u with
      | true => simp at e
      | false => exact ⟨_, rfl, .inl ⟨rfl, rfl, slB (by simpa using e) r1 w h⟩⟩
    | false =>
      cases u with
      | true => exact ⟨_, rfl, .inr ⟨rfl, rfl, slB (by simpa using e) r1 w h⟩⟩
      | false => simp at e
  · obtain ⟨v, u1, u2, F1, F2, F3, rfl, r1, ⟨rfl, rfl⟩, ⟨rfl, rfl⟩, rfl⟩ := r.three'
    rw [List.append_nil, List.append_nil] at w h
    split at e
    · exact ⟨_, _, rfl, rfl, slB e r1 w h⟩
    · cases e
  · cases e
theorem tV.mono {f : CE} {σ : L2.St} {H : Hp} {Q Q' : VK} (h : tV c f σ H Q) (i : ∀ v H, Q v H → Q' v H) : tV c f σ H Q' := by
  obtain ⟨Z, env, F, a, h⟩ := h
  refine ⟨Z, env, F, a, ?_⟩
  cases e : f env with
  | ok d e1 => rw [e] at h; exact fun Z' H' v G F' s r re => i v H' (h Z' H' v G F' s r re)
  | exc x e1 => rw [e] at h; exact h
  | bad => rw [e] at h; exact h
theorem se_sl00 (hk : X.K = c.K) (ho : PE X o (tV c fo)) : PE X (.Subscript o (.Slice none none none p2) pos) (tV c (cSl fo none none)) := (pe_slice sl_any ho po_none po_none).imp fun σ H Q h => by
  rw [hk]
  exact tV.mono (app_run (ok_sl false false) h) fun v H1 q => q.1 ⟨rfl, rfl⟩
theorem se_sl10 (hk : X.K = c.K) (ho : PE X o (tV c fo)) (ha : PE X a (tV c fa)) : PE X (.Subscript o (.Slice (some a) none none p2) pos) (tV c (cSl fo (some fa) none)) := (pe_slice sl_any ho (po_some ha) po_none).imp fun σ H Q h => by
  rw [hk]
  refine tV.mono (app_run (ok_sl true false) h) fun v H1 q => ?_
  refine int_run (tV.mono q fun y H2 ⟨i, e, q2⟩ => ⟨i, e, ?_⟩)
  rcases q2 with ⟨_, _, q2⟩ | ⟨e1, _, _⟩
  · exact q2
  · cases e1
theorem se_sl01 (hk : X.K = c.K) (ho : PE X o (tV c fo)) (ha : PE X a (tV c fa)) : PE X (.Subscript o (.Slice none (some a) none p2) pos) (tV c (cSl fo none (some fa))) := (pe_slice sl_any ho po_none (po_some ha)).imp fun σ H Q h => by
  rw [hk]
  refine tV.mono (app_run (ok_sl false true) h) fun v H1 q => ?_
  refine int_run (tV.mono q fun y H2 ⟨i, e, q2⟩ => ⟨i, e, ?_⟩)
  rcases q2 with ⟨e1, _, _⟩ | ⟨_, _, q2⟩
  · cases e1
  · exact q2
theorem se_sl11 (hk : X.K = c.K) (ho : PE X o (tV c fo)) (ha : PE X a (tV c fa)) (hb : PE X b (tV c fb)) : PE X (.Subscript o (.Slice (some a) (some b) none p2) pos) (tV c (cSl fo (some fa) (some fb))) := (pe_slice sl_any ho (po_some ha) (po_some hb)).imp fun σ H Q h => by
  rw [hk]
  refine tV.mono (app_run (ok_sl true true) h) fun v H1 q => ?_
  refine tV.mono (tV.int (f := fa) q) fun y H2 ⟨i, e, q2⟩ => ⟨i, e, ?_⟩
  refine tV.mono (tV.int (f := fb) q2) fun y' H3 ⟨j, e', q3⟩ => ⟨j, e', ?_⟩
  obtain ⟨i', j', e1, e2, q4⟩ := q3
  cases e1
  cases e2
  exact q4
end

/-! ### calls of built-in functions, types, methods -/
section
variable {c : Vc} {X : Cx} {x : Str} {p pos : Pos} {e o : Expr} {es : List Expr} {id T : String} {r : List V → Hp → VK → Prop} {f : List D → Option D} {fs : List CE} {fo : CE}
theorem se_bi (hc : CallR X (.builtin id) r) (ok : OkF c r f) (hg : Gl X x) (hm : X.mg x = none) (hv : bootBuiltins x = some (.builtin id)) (ha : PA X (e :: es) (tAs c fs)) (hn : x ≠ "__name__" := by decide) (hdb : (x == ("__debug__" : Str)) = false := by decide)
    (he : starEach (e :: es) X.env = (false, eval e X.env) :: starEach es X.env := by rfl) (hpl : (backTo pos (starEach es X.env)).any (·.1) = false := by rfl) : PE X (.Call (.Name x p) (e :: es) [] pos) (tV c (cApp f fs)) :=
  (pe_callB hc hg hm hv ha hn hdb he hpl).imp fun σ H Q h => app_run ok h
theorem se_ty (hc : CallR X (.type T) r) (ok : OkF c r f) (hg : Gl X x) (hm : X.mg x = none) (hv : bootBuiltins x = some (.type T)) (ha : PA X (e :: es) (tAs c fs)) (hn : x ≠ "__name__" := by decide) (hdb : (x == ("__debug__" : Str)) = false := by decide)
    (he : starEach (e :: es) X.env = (false, eval e X.env) :: starEach es X.env := by rfl) (hpl : (backTo pos (starEach es X.env)).any (·.1) = false := by rfl) : PE X (.Call (.Name x p) (e :: es) [] pos) (tV c (cApp f fs)) :=
  (pe_callTy hc hg hm hv ha hn hdb he hpl).imp fun σ H Q h => app_run ok h
theorem CallR.or {v : Value} {r r' : List V → Hp → VK → Prop} (h : CallR X v r) (h' : CallR X v r') : CallR X v (fun xs H Q => r xs H Q ∨ r' xs H Q) := by
  intro pins s σ H xs us Q I rr q
  rcases q with q | q
  · exact h pins s σ H xs us Q I rr q
  · exact h' pins s σ H xs us Q I rr q
end

/-! ### len, max, min, abs, int, str, all, any, sum -/
def dLen : List D → Option D
  | [.lst _ xs] => some (.int xs.length)
  | [.tup xs] => some (.int xs.length)
  | [.ktp xs] => some (.int xs.length)
  | [.str z] => if z.length ≤ sizeLine then some (.int z.length) else none
  | _ => none
def rLenAny (K : PySem.W.Frag) : List V → Hp → VK → Prop := fun xs H Q => ∃ x n, xs = [x] ∧ LenV K x H n ∧ Q (.int n) H
theorem ok_len {c : Vc} : OkF c (rLenAny c.K) dLen := by
  intro Z H ds vs G z Q e r w h
  unfold dLen at e
  split at e
  · cases e
    obtain ⟨v, rfl, r1⟩ := r.one'
    obtain ⟨a, us, G1, rfl, s1, q1, l1⟩ := r1.lst
    exact ⟨_, _, rfl, .inl ⟨us, s1, q1.length.symm⟩, h Z H _ [] (Step.subl w (List.nil_sublist _)) ⟨rfl, rfl⟩⟩
  · cases e
    obtain ⟨v, rfl, r1⟩ := r.one'
    obtain ⟨a, us, rfl, s1, q1⟩ := r1.tup
    exact ⟨_, _, rfl, .inr ⟨us, s1, q1.length.symm⟩, h Z H _ [] (Step.subl w (List.nil_sublist _)) ⟨rfl, rfl⟩⟩
  · cases e
    obtain ⟨v, rfl, r1⟩ := r.one'
    obtain ⟨a, us, rfl, s1, q1⟩ := r1.ktp
    exact ⟨_, _, rfl, .inr ⟨us, s1, q1.length.symm⟩, h Z H _ [] (Step.subl w (List.nil_sublist _)) ⟨rfl, rfl⟩⟩
  · split at e
    · rename_i hl
      cases e
      obtain ⟨v, rfl, ⟨rfl, rfl⟩⟩ := r.one'
      exact ⟨_, _, rfl, ⟨hl, rfl⟩, h Z H _ [] (Step.refl w) ⟨rfl, rfl⟩⟩
    · cases e
  · cases e
/-- functions of one whole number, of two -/
theorem ok_1 {c : Vc} {f : List D → Option D} {r : List V → Hp → VK → Prop} (hf : ∀ ds z, f ds = some z → ∃ d, ds = [d] ∧ ∀ Z H v F Q, c.R Z H d v F → (∀ u, (∀ Z' H', c.R Z' H' z u []) → Q u H) → r [v] H Q) : OkF c r f := by
  intro Z H ds vs G z Q e r1 w h
  obtain ⟨d, rfl, k⟩ := hf ds z e
  obtain ⟨v, rfl, r2⟩ := r1.one'
  exact k Z H v G Q r2 fun u ru => h Z H u [] (Step.subl w (List.nil_sublist _)) (ru Z H)
theorem ok_2 {c : Vc} {f : List D → Option D} {r : List V → Hp → VK → Prop} (hf : ∀ ds z, f ds = some z → ∃ d d', ds = [d, d'] ∧ ∀ Z H v v' F F' Q, c.R Z H d v F → c.R Z H d' v' F' → (∀ u, (∀ Z' H', c.R Z' H' z u []) → Q u H) → r [v, v'] H Q) : OkF c r f := by
  intro Z H ds vs G z Q e r1 w h
  obtain ⟨d, d', rfl, k⟩ := hf ds z e
  obtain ⟨v, v', F1, F2, rfl, r2, r3, rfl⟩ := r1.two'
  exact k Z H v v' F1 F2 Q r2 r3 fun u ru => h Z H u [] (Step.subl w (List.nil_sublist _)) (ru Z H)
def dMax : List D → Option D
  | [.int i, .int j] => some (.int (if j > i then j else i))
  | _ => none
def dMin : List D → Option D
  | [.int i, .int j] => some (.int (if j < i then j else i))
  | _ => none
def dAbs : List D → Option D
  | [.int i] => some (.int (if i < 0 then -i else i))
  | _ => none
def dToInt : List D → Option D
  | [.int i] => some (.int i)
  | [.bl k] => some (.int (if k then 1 else 0))
  | [.str x] => if x.length ≤ 640 then (PySem.intText? x).map .int else none
  | _ => none
def dStr : List D → Option D
  | [.int i] => if i.natAbs.log2 < 1920 then some (.str (Str.ofString (toString i))) else none
  | _ => none
def boolsOf : List D → Option (List Bool)
  | [] => some []
  | .bl b :: ds => (boolsOf ds).map (b :: ·)
  | _ => none
def dAll : List D → Option D
  | [.lst _ xs] => (boolsOf xs).map fun bs => .bl (bs.all id)
  | _ => none
def dAny : List D → Option D
  | [.lst _ xs] => (boolsOf xs).map fun bs => .bl (bs.any id)
  | _ => none
def dSum : List D → Option D
  | [.lst _ xs] => (intsOf xs).map fun ns => .int ns.sum
  | _ => none
theorem ok_max {c : Vc} : OkF c (fun xs H Q => ∃ i j, xs = [.int i, .int j] ∧ Q (.int (if j > i then j else i)) H) dMax := ok_2 fun ds z e => by
  unfold dMax at e
  split at e
  · cases e
    exact ⟨_, _, rfl, fun Z H v v' F F' Q ⟨e1, _⟩ ⟨e2, _⟩ k => ⟨_, _, by rw [e1, e2], k _ fun _ _ => ⟨rfl, rfl⟩⟩⟩
  · cases e
theorem ok_min {c : Vc} : OkF c (fun xs H Q => ∃ i j, xs = [.int i, .int j] ∧ Q (.int (if j < i then j else i)) H) dMin := ok_2 fun ds z e => by
  unfold dMin at e
  split at e
  · cases e
    exact ⟨_, _, rfl, fun Z H v v' F F' Q ⟨e1, _⟩ ⟨e2, _⟩ k => ⟨_, _, by rw [e1, e2], k _ fun _ _ => ⟨rfl, rfl⟩⟩⟩
  · cases e
theorem ok_abs {c : Vc} : OkF c (fun xs H Q => ∃ i, xs = [.int i] ∧ Q (.int (if i < 0 then -i else i)) H) dAbs := ok_1 fun ds z e => by
  unfold dAbs at e
  split at e
  · cases e
    exact ⟨_, rfl, fun Z H v F Q ⟨e1, _⟩ k => ⟨_, by rw [e1], k _ fun _ _ => ⟨rfl, rfl⟩⟩⟩
  · cases e
def rToInt : List V → Hp → VK → Prop := fun xs H Q => ((∃ i, xs = [.int i] ∧ Q (.int i) H) ∨ ∃ k, xs = [.bl k] ∧ Q (.int (if k then 1 else 0)) H) ∨ ∃ a n, xs = [.str a] ∧ PySem.intText? a = some n ∧ a.length ≤ 640 ∧ Q (.int n) H
theorem call_toInt {X : Cx} : CallR X (.type "int") rToInt := CallR.or call_int1 call_int_str
theorem ok_toInt {c : Vc} : OkF c rToInt dToInt := ok_1 fun ds z e => by
  unfold dToInt at e
  split at e
  · cases e
    exact ⟨_, rfl, fun Z H v F Q ⟨e1, _⟩ k => .inl (.inl ⟨_, by rw [e1], k _ fun _ _ => ⟨rfl, rfl⟩⟩)⟩
  · cases e
    exact ⟨_, rfl, fun Z H v F Q ⟨e1, _⟩ k => .inl (.inr ⟨_, by rw [e1], k _ fun _ _ => ⟨rfl, rfl⟩⟩)⟩
  · split at e
    · rename_i hl
      obtain ⟨n, en, rfl⟩ := Option.map_eq_some_iff.mp e
      exact ⟨_, rfl, fun Z H v F Q ⟨e1, _⟩ k => .inr ⟨_, _, by rw [e1], en, hl, k _ fun _ _ => ⟨rfl, rfl⟩⟩⟩
    · cases e
  · cases e
theorem ok_str {c : Vc} : OkF c (fun xs H Q => ∃ i, xs = [.int i] ∧ i.natAbs.log2 < 1920 ∧ Q (.str (Str.ofString (toString i))) H) dStr := ok_1 fun ds z e => by
  unfold dStr at e
  split at e
  · split at e
    · rename_i hl
      cases e
      exact ⟨_, rfl, fun Z H v F Q ⟨e1, _⟩ k => ⟨_, by rw [e1], hl, k _ fun _ _ => ⟨rfl, rfl⟩⟩⟩
    · cases e
  · cases e
theorem boolsOf_reps {K : PySem.W.Frag} {mg : Str → Option Value} {Z : Addr → Prop} {H : Hp} : ∀ {ds : List D} {bs : List Bool} {vs : List V} {F : List Addr}, boolsOf ds = some bs → Reps K mg Z H ds vs F → vs = bs.map V.bl
  | [], bs, vs, F, e, h => by cases e; exact h.1
  | d :: ds, bs, vs, F, e, h => by
    unfold boolsOf at e
    split at e
    · rename_i q; cases q
    · rename_i b ds' q
      cases q
      obtain ⟨bs', eb, rfl⟩ := Option.map_eq_some_iff.mp e
      obtain ⟨v, r, F1, F2, rfl, ⟨rfl, _⟩, h2, _⟩ := h
      rw [boolsOf_reps eb h2]
      rfl
    · cases e
theorem ok_all {c : Vc} : OkF c (rAll c.K) dAll := ok_1 fun ds z e => by
  unfold dAll at e
  split at e
  · obtain ⟨bs, eb, rfl⟩ := Option.map_eq_some_iff.mp e
    refine ⟨_, rfl, fun Z H v F Q r k => ?_⟩
    obtain ⟨a, us, G1, rfl, s1, q1, l1⟩ := Rep.lst r
    rw [boolsOf_reps eb q1] at s1
    exact ⟨a, bs, rfl, s1, k _ fun _ _ => ⟨rfl, rfl⟩⟩
  · cases e
theorem ok_any {c : Vc} : OkF c (rAny c.K) dAny := ok_1 fun ds z e => by
  unfold dAny at e
  split at e
  · obtain ⟨bs, eb, rfl⟩ := Option.map_eq_some_iff.mp e
    refine ⟨_, rfl, fun Z H v F Q r k => ?_⟩
    obtain ⟨a, us, G1, rfl, s1, q1, l1⟩ := Rep.lst r
    rw [boolsOf_reps eb q1] at s1
    exact ⟨a, bs, rfl, s1, k _ fun _ _ => ⟨rfl, rfl⟩⟩
  · cases e
theorem ok_sum {c : Vc} : OkF c (rSum c.K) dSum := ok_1 fun ds z e => by
  unfold dSum at e
  split at e
  · obtain ⟨bs, eb, rfl⟩ := Option.map_eq_some_iff.mp e
    refine ⟨_, rfl, fun Z H v F Q r k => ?_⟩
    obtain ⟨a, us, G1, rfl, s1, q1, l1⟩ := Rep.lst r
    have := intsOf_eq eb
    subst this
    rw [reps_ints q1] at s1
    exact ⟨a, bs, rfl, s1, k _ fun _ _ => ⟨rfl, rfl⟩⟩
  · cases e

/-! ### list(..), tuple(..) -/
def dToLst : List D → Option D
  | [.lst _ xs] => if ownL xs then none else some (.lst true xs)
  | [.tup xs] => if ownL xs then none else some (.lst true xs)
  | [.ktp xs] => some (.lst true xs)
  | _ => none
def dToTup : List D → Option D
  | [.lst _ xs] => if ownL xs then none else some (.tup xs)
  | [.tup xs] => some (.tup xs)
  | [.ktp xs] => some (.ktp xs)
  | _ => none
theorem ok_toLst {c : Vc} : OkF c (fun xs H Q => ∃ p ys, xs = [.ref p] ∧ (SqL c.K H p ys ∨ SqT c.K H p ys) ∧ ∀ l, H l = none → Q (.ref l) (upd H l (.lst ys))) dToLst := by
  intro Z H ds vs G z Q e r w h
  unfold dToLst at e
  have fin : ∀ {xs : List D} {us : List V}, Reps c.K c.mg Z H xs us [] → ∀ l, H l = none → z = .lst true xs → Q (.ref l) (upd H l (.lst us)) := fun q1 l hl ez => by
    subst ez
    exact h Z _ _ _ (Step.fresh w (List.nil_sublist _) hl mut_lst) ⟨l, _, [], rfl, upd_same, q1.new hl, rfl⟩
  split at e
  · split at e
    · cases e
    · rename_i ho
      cases e
      obtain ⟨v, rfl, r1⟩ := r.one'
      obtain ⟨a, us, G1, rfl, s1, q1, l1⟩ := r1.lst
      have g := Reps.noown _ _ _ q1 (by simpa using ho)
      subst g
      exact ⟨a, us, rfl, .inl s1, fun l hl => fin q1 l hl rfl⟩
  · split at e
    · cases e
    · rename_i ho
      cases e
      obtain ⟨v, rfl, r1⟩ := r.one'
      obtain ⟨a, us, rfl, s1, q1⟩ := r1.tup
      have g := Reps.noown _ _ _ q1 (by simpa using ho)
      subst g
      exact ⟨a, us, rfl, .inr s1, fun l hl => fin q1 l hl rfl⟩
  · cases e
    obtain ⟨v, rfl, r1⟩ := r.one'
    obtain ⟨a, us, rfl, s1, q1⟩ := r1.ktp
    exact ⟨a, us, rfl, .inr s1, fun l hl => fin q1 l hl rfl⟩
  · cases e
theorem ok_toTup {c : Vc} : OkF c (fun xs H Q => ∃ p ys, xs = [.ref p] ∧ ((SqL c.K H p ys ∧ ∀ l, H l = none → Q (.ref l) (upd H l (.tup ys))) ∨ (SqT c.K H p ys ∧ Q (.ref p) H))) dToTup := by
  intro Z H ds vs G z Q e r w h
  unfold dToTup at e
  split at e
  · split at e
    · cases e
    · rename_i ho
      cases e
      obtain ⟨v, rfl, r1⟩ := r.one'
      obtain ⟨a, us, G1, rfl, s1, q1, l1⟩ := r1.lst
      have g := Reps.noown _ _ _ q1 (by simpa using ho)
      subst g
      exact ⟨a, us, rfl, .inl ⟨s1, fun l hl => h Z _ _ _ (Step.fresh0 w (List.nil_sublist _) hl) ⟨l, us, rfl, upd_same, q1.new hl⟩⟩⟩
  · cases e
    obtain ⟨v, rfl, r1⟩ := r.one'
    obtain ⟨a, us, rfl, s1, q1⟩ := id r1
    exact ⟨a, us, rfl, .inr ⟨SqT.of s1, h Z H _ _ (Step.refl w) r1⟩⟩
  · cases e
    obtain ⟨v, rfl, r1⟩ := r.one'
    obtain ⟨a, us, rfl, s1, q1, rfl⟩ := id r1
    exact ⟨a, us, rfl, .inr ⟨KT.sq s1, h Z H _ [] (Step.refl w) r1⟩⟩
  · cases e
end VL

set_option Elab.async false
set_option maxRecDepth 100000
/-! VF: methods, isinstance, sorted. -/
namespace VL
open PySem L2 PySem.Spec PyProof.Rows

section
variable {c : Vc} {X : Cx} {o e : Expr} {es : List Expr} {name : Str} {apos cpos : Pos} {T id : String} {r : V → List V → Hp → VK → Prop} {ty : D → Bool} {f : D → List D → Option D} {fo : CE} {fs : List CE}
abbrev rCons (r : V → List V → Hp → VK → Prop) : List V → Hp → VK → Prop := fun vs H Q => ∃ x xs, vs = x :: xs ∧ r x xs H Q
abbrev fCons (f : D → List D → Option D) : List D → Option D := fun ds => match ds with
  | d :: ds => f d ds
  | [] => none
theorem se_met (pa : PlainAttrs T) (slot : Slot T name id) (hty : typeOf (.builtin id) = pure (.type "method_descriptor")) (hm : MtR X id r) (hk : X.K = c.K) (ht : ∀ Z H d v G, ty d = true → c.R Z H d v G → tyV c.K T v H) (ok : OkF c (rCons r) (fCons f))
    (ho : PE X o (tV c fo)) (ha : PA X (e :: es) (tAs c fs)) (hbase : attributeBase o name X.env (eval o X.env) = eval o X.env := by rfl)
    (hpy : ((backTo cpos (starEach (e :: es) X.env)).all (!·.1) && (backToKw cpos (keywordEach [] X.env)).all (·.1.isSome) && decide ((e :: es).length + ([] : List Keyword).length + (if ([] : List Keyword).isEmpty then 0 else 1) < 30)) = true := by rfl)
    (hline : (apos.endLine == cpos.line) = true := by rfl) (he : starEach (e :: es) X.env = (false, eval e X.env) :: starEach es X.env := by rfl) (hpl : (backTo cpos (starEach es X.env)).any (·.1) = false := by rfl) :
    PE X (.Call (.Attribute o name apos) (e :: es) [] cpos) (tV c (cMet ty f fo fs)) :=
  (pe_bm pa slot hty hm ho ha hbase hpy hline he hpl).imp fun σ H Q h => by
    have q := met_run (T := fun v H => tyV c.K T v H) ht ok h
    rw [← hk] at q
    exact q
end

/-! ### texts -/
def isStr : D → Bool
  | .str _ => true
  | _ => false
theorem isStr_ty {c : Vc} : ∀ Z H d v G, isStr d = true → c.R Z H d v G → tyV c.K "str" v H := fun Z H d v G h r => by
  unfold isStr at h
  split at h
  · obtain ⟨rfl, _⟩ := r; rfl
  · cases h
def strsOf : List D → Option (List Str)
  | [] => some []
  | .str x :: ds => (strsOf ds).map (x :: ·)
  | _ => none
theorem strsOf_reps {K : PySem.W.Frag} {mg : Str → Option Value} {Z : Addr → Prop} {H : Hp} : ∀ {ds : List D} {bs : List Str} {vs : List V} {F : List Addr}, strsOf ds = some bs → Reps K mg Z H ds vs F → vs = bs.map V.str
  | [], bs, vs, F, e, h => by cases e; exact h.1
  | d :: ds, bs, vs, F, e, h => by
    unfold strsOf at e
    split at e
    · rename_i q; cases q
    · rename_i b ds' q
      cases q
      obtain ⟨bs', eb, rfl⟩ := Option.map_eq_some_iff.mp e
      obtain ⟨v, r, F1, F2, rfl, ⟨rfl, _⟩, h2, _⟩ := h
      rw [strsOf_reps eb h2]
      rfl
    · cases e
theorem reps_strs {K : PySem.W.Frag} {mg : Str → Option Value} {Z : Addr → Prop} {H : Hp} : ∀ ys : List Str, Reps K mg Z H (ys.map D.str) (ys.map V.str) []
  | [] => ⟨rfl, rfl⟩
  | y :: ys => ⟨_, _, [], [], rfl, ⟨rfl, rfl⟩, reps_strs ys, rfl⟩
def dJoin : D → List D → Option D
  | .str a, [.lst _ xs] => (strsOf xs).bind fun ys => if (ys.map (·.length)).sum + ys.length * a.length ≤ 16777216 then some (.str (Txt.join a ys)) else none
  | .str a, [.tup xs] => (strsOf xs).bind fun ys => if (ys.map (·.length)).sum + ys.length * a.length ≤ 16777216 then some (.str (Txt.join a ys)) else none
  | _, _ => none
def dSplit : D → List D → Option D
  | .str a, [.str b] => if (b.length == 0) = false ∧ a.length + 2 ≤ sizeLine then some (.lst true ((Txt.split a b).map D.str)) else none
  | _, _ => none
def dPartition : D → List D → Option D
  | .str a, [.str b] => if (b.length == 0) = false ∧ a.length ≤ sizeLine then some (.tup [.str (Txt.partition a b).1, .str (Txt.partition a b).2.1, .str (Txt.partition a b).2.2]) else none
  | _, _ => none
theorem ok_join {c : Vc} : OkF c (rCons (fun x xs H Q => ∃ a p, ∃ ys : List Str, x = .str a ∧ xs = [.ref p] ∧ (SqL c.K H p (ys.map V.str) ∨ SqT c.K H p (ys.map V.str)) ∧ (ys.map (·.length)).sum + ys.length * a.length ≤ 16777216 ∧ Q (.str (Txt.join a ys)) H)) (fCons dJoin) := ok_2 fun ds z e => by
  dsimp only [fCons] at e
  split at e
  · rename_i d ds
    unfold dJoin at e
    split at e
    · obtain ⟨ys, ey, e⟩ := Option.bind_eq_some_iff.mp e
      split at e
      · rename_i hl
        cases e
        refine ⟨_, _, rfl, fun Z H v v' F F' Q ⟨e1, _⟩ r k => ?_⟩
        obtain ⟨a, us, G1, rfl, s1, q1, l1⟩ := Rep.lst r
        rw [strsOf_reps ey q1] at s1
        exact ⟨_, _, rfl, _, a, ys, e1, rfl, .inl s1, hl, k _ fun _ _ => ⟨rfl, rfl⟩⟩
      · cases e
    · obtain ⟨ys, ey, e⟩ := Option.bind_eq_some_iff.mp e
      split at e
      · rename_i hl
        cases e
        refine ⟨_, _, rfl, fun Z H v v' F F' Q ⟨e1, _⟩ r k => ?_⟩
        obtain ⟨a, us, rfl, s1, q1⟩ := Rep.tup r
        rw [strsOf_reps ey q1] at s1
        exact ⟨_, _, rfl, _, a, ys, e1, rfl, .inr s1, hl, k _ fun _ _ => ⟨rfl, rfl⟩⟩
      · cases e
    · cases e
  · cases e
theorem ok_split {c : Vc} : OkF c (rCons (fun x xs H Q => ∃ a b, x = .str a ∧ xs = [.str b] ∧ (b.length == 0) = false ∧ a.length + 2 ≤ sizeLine ∧ rNewStrs (Txt.split a b) H Q)) (fCons dSplit) := by
  intro Z H ds vs G z Q e r w h
  dsimp only [fCons] at e
  split at e
  · unfold dSplit at e
    split at e
    · split at e
      · rename_i hl
        cases e
        obtain ⟨v, u, F1, F2, rfl, ⟨rfl, rfl⟩, ⟨rfl, rfl⟩, rfl⟩ := r.two'
        refine ⟨_, _, rfl, _, _, rfl, rfl, hl.1, hl.2, fun p hp => ?_⟩
        exact h Z _ _ _ (Step.fresh w (List.nil_sublist _) hp mut_lst) ⟨p, _, [], rfl, upd_same, reps_strs _, rfl⟩
      · cases e
    · cases e
  · cases e
theorem ok_partition {c : Vc} : OkF c (rCons (fun x xs H Q => ∃ a b, x = .str a ∧ xs = [.str b] ∧ (b.length == 0) = false ∧ a.length ≤ sizeLine ∧
    ∀ p, H p = none → Q (.ref p) (upd H p (.tup [.str (Txt.partition a b).1, .str (Txt.partition a b).2.1, .str (Txt.partition a b).2.2])))) (fCons dPartition) := by
  intro Z H ds vs G z Q e r w h
  dsimp only [fCons] at e
  split at e
  · unfold dPartition at e
    split at e
    · split at e
      · rename_i hl
        cases e
        obtain ⟨v, u, F1, F2, rfl, ⟨rfl, rfl⟩, ⟨rfl, rfl⟩, rfl⟩ := r.two'
        refine ⟨_, _, rfl, _, _, rfl, rfl, hl.1, hl.2, fun p hp => ?_⟩
        exact h Z _ _ _ (Step.fresh0 w (List.nil_sublist _) hp) ⟨p, _, rfl, upd_same, reps_strs [_, _, _]⟩
      · cases e
    · cases e
  · cases e

/-! ### isinstance of built-in types -/
inductive Ty where
  | int | bool | str | list | tuple
  deriving DecidableEq
def Ty.nm : Ty → String
  | .int => "int" | .bool => "bool" | .str => "str" | .list => "list" | .tuple => "tuple"
inductive Tg where
  | non | bool | int | str | tuple | list | dict | odd
def Tg.nm : Tg → String
  | .non => "NoneType" | .bool => "bool" | .int => "int" | .str => "str" | .tuple => "tuple" | .list => "list" | .dict => "dict" | .odd => ""
def Tg.isa : Tg → Ty → Bool
  | .bool, .int => true | .bool, .bool => true | .int, .int => true | .str, .str => true | .tuple, .tuple => true | .list, .list => true | _, _ => false
def D.tg : D → Tg
  | .non => .non | .bl _ => .bool | .int _ => .int | .str _ => .str | .tup _ => .tuple | .ktp _ => .tuple | .lst _ _ => .list | .dk _ _ _ => .dict | _ => .odd
def Tg.typed : Tg → Bool
  | .odd => false | _ => true
theorem isa_kit : ∀ (d : Tg) (t : Ty), d.typed = true → kitB d.nm t.nm = some (d.isa t) := by
  intro d t h
  cases d <;> cases t <;> first | exact absurd h (by decide) | decide +kernel
theorem Rep.tyx {K : PySem.W.Frag} {mg : Str → Option Value} {Z : Addr → Prop} {H : Hp} {d : D} {v : V} {F : List Addr} (h : Rep K mg Z H d v F) (ht : d.tg.typed = true) : TyX K H v (.type d.tg.nm) := by
  cases d with
  | fn => cases ht
  | ins => cases ht
  | dead => cases ht
  | dt => cases ht
  | non => obtain ⟨rfl, _⟩ := h; exact .base .non
  | bl => obtain ⟨rfl, _⟩ := h; exact .base (.bl _)
  | int => obtain ⟨rfl, _⟩ := h; exact .base (.int _)
  | str => obtain ⟨rfl, _⟩ := h; exact .base (.str _)
  | tup => obtain ⟨a, vs, rfl, h1, _⟩ := h; exact .base (.tup h1)
  | ktp =>
    obtain ⟨a, vs, rfl, h1, _⟩ := h
    rcases h1 with (h1 | ⟨o, h1⟩) | ⟨o, its, n, h1, h2, _⟩
    · cases h1
    · cases h1
    · exact .kTuple h1 h2
  | lst o =>
    obtain ⟨a, vs, G, rfl, h1, _⟩ := h.lst
    rcases h1 with (h1 | ⟨o, h1⟩) | ⟨o, its, n, h1, h2, _⟩
    · exact .base (.lst h1)
    · exact .base (.frz h1)
    · exact .kList h1 h2
  | dk o =>
    obtain ⟨a, vs, G, rfl, h1, _⟩ := h.dk
    rcases h1 with h1 | ⟨o, h1⟩
    · exact .base (.dK h1)
    · exact .fDict h1
/-- isinstance(x, T); isinstance(x, (T, ..)) -/
def cIsa (ts : List Ty) (f : CE) : CE := fun env => (f env).bind fun d e => if d.tg.typed then .ok (.bl (ts.any fun t => d.tg.isa t)) e else .bad
def tTys : List Ty → TA
  | [] => tNil
  | t :: ts => tCons (tC (.ty t.nm)) (tTys ts)
theorem clsV_tys : ∀ ts : List Ty, Paired ClsV (ts.map fun t => V.ty t.nm) (ts.map fun t => Value.type t.nm)
  | [] => .nil
  | t :: ts => .cons (.ty _) (clsV_tys ts)
section
variable {c : Vc} {X : Cx} {p p1 p2 pos tp : Pos} {e : Expr} {f : CE}
theorem isa_any {K : PySem.W.Frag} {g : Tg} (hg : g.typed = true) : ∀ ts : List Ty, PySem.W.kitAny K (.type g.nm) (ts.map fun t => .type t.nm) = some (ts.any fun t => g.isa t)
  | [] => rfl
  | t :: ts => by
    rw [List.map_cons, List.any_cons]
    refine kitAny_cons (kit_ty (isa_kit g t hg)) (fun e => ?_) (fun e => by rw [e]; rfl)
    rw [e, Bool.false_or]
    exact isa_any hg ts
theorem se_isa1 {t : Ty} {x : Str} (hx : x = Str.ofString t.nm) (hg : Gl X "isinstance") (hm : X.mg "isinstance" = none) (hg1 : Gl X x) (hm1 : X.mg x = none) (hv1 : bootBuiltins x = some (.type t.nm)) (hk : X.K = c.K) (he : PE X e (tV c f))
    (hn1 : x ≠ "__name__" := by decide) (hd1 : (x == ("__debug__" : Str)) = false := by decide) (hs : starEach [e, .Name x p1] X.env = (false, eval e X.env) :: starEach [.Name x p1] X.env := by rfl) :
    PE X (.Call (.Name "isinstance" p) [e, .Name x p1] [] pos) (tV c (cIsa [t] f)) := by
  have ha : PA X [e, .Name x p1] (tCons (tV c f) (tCons (tC (.ty t.nm)) tNil)) := pa_cons he (pa_cons (pe_bltn hg1 hm1 hv1 rfl hn1 hd1) pa_nil) hs
  refine (pe_callB call_isi hg hm (by decide +kernel) ha (he := hs)).imp fun σ H Q ⟨Z, env, F, a, h⟩ => ?_
  refine tV.go a ?_
  unfold cIsa at h
  cases e1 : f env with
  | bad => rw [e1] at h; exact h
  | exc x e2 => rw [e1] at h; exact h
  | ok d e2 =>
    rw [e1] at h
    simp only [RE.bind] at h
    intro Z1 H1 v G F1 s r a1
    cases ht : d.tg.typed with
    | false => rw [ht] at h; exact h.elim
    | true =>
      rw [ht] at h
      refine ⟨v, .ty t.nm, _, _, d.tg.isa t, rfl, .ty _, ?_, kit_ty (isa_kit _ _ ht), ?_⟩
      · rw [hk]; exact Rep.tyx r ht
      · have q := h Z1 H1 (.bl ([t].any fun t => d.tg.isa t)) [] F1 s.drop ⟨rfl, rfl⟩ a1.rep
        rw [List.any_cons, List.any_nil, Bool.or_false] at q
        exact q
theorem se_isaN {ts : List Ty} {es : List Expr} {k : Nat} (hg : Gl X "isinstance") (hm : X.mg "isinstance" = none) (hk : X.K = c.K) (he : PE X e (tV c f)) (hes : PA X es (tTys ts)) (hl : ts.length ≤ sizeLine)
    (hs : starEach [e, .Tuple es k tp] X.env = (false, eval e X.env) :: starEach [.Tuple es k tp] X.env := by rfl) :
    PE X (.Call (.Name "isinstance" p) [e, .Tuple es k tp] [] pos) (tV c (cIsa ts f)) := by
  have ha : PA X [e, .Tuple es k tp] (tCons (tV c f) (tCons (tTup (tTys ts)) tNil)) := pa_cons he (pa_cons (pe_tup hes) pa_nil) hs
  refine (pe_callB call_isiT hg hm (by decide +kernel) ha (he := hs)).imp fun σ H Q ⟨Z, env, F, a, h⟩ => ?_
  refine tV.go a ?_
  unfold cIsa at h
  cases e1 : f env with
  | bad => rw [e1] at h; exact h
  | exc x e2 => rw [e1] at h; exact h
  | ok d e2 =>
    rw [e1] at h
    simp only [RE.bind] at h
    intro Z1 H1 v G F1 s r a1
    cases ht : d.tg.typed with
    | false => rw [ht] at h; exact h.elim
    | true =>
      rw [ht] at h
      have run : ∀ (ts : List Ty) (Q : List V → Hp → Prop), Q (ts.map fun t => .ty t.nm) H1 → tTys ts σ H1 Q := by
        intro ts
        induction ts with
        | nil => exact fun Q h => h
        | cons t ts ih => exact fun Q h => ih _ h
      refine run ts _ ⟨by rw [List.length_map]; exact hl, fun p hp => ?_⟩
      have s1 := s.put (o := .tup (ts.map fun t => .ty t.nm)) hp
      have r1 := Rep.new (o := .tup (ts.map fun t => .ty t.nm)) hp r
      refine ⟨v, p, _, _, ts.map fun t => .type t.nm, _, rfl, upd_same, ?_, ?_, isa_any ht ts, ?_⟩
      · exact clsV_tys ts
      · rw [hk]; exact Rep.tyx r1 ht
      · exact h Z1 _ _ [] F1 s1.drop ⟨rfl, rfl⟩ (RepS.frame (Kp.new hp) (fun b m => by cases m) (fun _ z => z) a1.rep (fun b _ m => by cases m))
end

/-! ### sorted -/
def sLe (x y : D) : Bool := PySem.W.dataLe false D.dat x y
def tupNe : D → Bool
  | .tup (_ :: _) => true
  | _ => false
def notTN : D → Bool
  | .tup _ => false
  | .ktp _ => false
  | .non => false
  | .dk _ _ _ => false
  | .dt _ _ _ => false
  | .ins _ _ _ _ => false
  | .fn _ => false
  | .dead => false
  | _ => true
theorem notTN_dat (x : D) (h : notTN x = true) : x.dat ≠ .none ∧ ∀ xs, x.dat ≠ .tuple xs := by
  cases x <;> simp [notTN, D.dat] at h ⊢
def sortable (xs : List D) : Bool := okDL xs 60 && !ownL xs && decide (xs.length ≤ sizeLine) && (xs.all fun x => xs.all fun y => PySem.W.alike x.dat y.dat) && (xs.all tupNe || xs.all notTN)
def dSorted : List D → Option D
  | [.lst _ xs] => if sortable xs then some (.lst true (xs.mergeSort sLe)) else none
  | [.tup xs] => none
  | _ => none
/-- the sorted values beside their trees -/
def srtV (ws : List V) (xs : List D) : List V := ((ws.zip xs).mergeSort fun a b => sLe a.2 b.2).map (·.1)
def rSortD (K : PySem.W.Frag) : List V → Hp → VK → Prop := fun vs H Q => ∃ a ws xs, vs = [.ref a] ∧ SqL K H a ws ∧ DpAll K H ws (datL xs) ∧ sortable xs = true ∧ ∀ p, H p = none → Q (.ref p) (upd H p (.lst (srtV ws xs)))
theorem DpAll.length {K : PySem.W.Frag} {H : Hp} : ∀ {ws : List V} {ds : List PyData}, DpAll K H ws ds → ws.length = ds.length
  | _, _, .nil => rfl
  | _, _, .cons _ t => by simp [DpAll.length t]
theorem sortable_spec {xs : List D} (h : sortable xs = true) : okDL xs 60 = true ∧ ownL xs = false ∧ xs.length ≤ sizeLine ∧ PySem.W.AllAlike (xs.map D.dat) ∧ PySem.W.Sortable (xs.map D.dat) := by
  unfold sortable at h
  simp only [Bool.and_eq_true, Bool.or_eq_true, decide_eq_true_eq, List.all_eq_true, Bool.not_eq_true'] at h
  obtain ⟨⟨⟨⟨h1, h2⟩, h3⟩, h4⟩, h5⟩ := h
  refine ⟨h1, h2, h3, fun d hd d' hd' => ?_, ?_⟩
  · obtain ⟨x, hx, rfl⟩ := List.mem_map.mp hd
    obtain ⟨y, hy, rfl⟩ := List.mem_map.mp hd'
    exact h4 x hx y hy
  · rcases h5 with h5 | h5
    · refine .inl fun d hd => ?_
      obtain ⟨x, hx, rfl⟩ := List.mem_map.mp hd
      have q := h5 x hx
      unfold tupNe at q
      split at q
      · exact ⟨_, _, rfl⟩
      · cases q
    · refine .inr fun d hd => ?_
      obtain ⟨x, hx, rfl⟩ := List.mem_map.mp hd
      have q := h5 x hx
      exact notTN_dat x q
theorem okDL_mem : ∀ {xs : List D} {n : Nat}, okDL xs n = true → ∀ x ∈ xs, x.okD n = true
  | [], _, _, _, m => by cases m
  | d :: ds, n, h, x, m => by
    simp [okDL] at h
    rcases List.mem_cons.mp m with e | m
    · rw [e]; exact h.1
    · exact okDL_mem h.2 x m
section
variable {X : Cx} {pins : List (Addr × Obj)} {σ : L2.St} {H : Hp} {s : Shared}
theorem each_rel : ∀ {ws : List V} {its : List Value} (xs : List D), Vals ws its → ws.length = xs.length → PySem.W.EachIs (fun (u : Value) (p : V × D) => RelV p.1 u) its (ws.zip xs)
  | [], _, xs, r, h => by cases r; exact .nil
  | w :: ws, _, [], r, h => by simp at h
  | w :: ws, _, x :: xs, r, h => by
    cases r with
    | cons r1 r2 => exact .cons r1 (each_rel xs r2 (by simpa using h))
theorem each_reads (I : Inv X pins σ H s) : ∀ {ws : List V} {its : List Value} (xs : List D), Vals ws its → DpAll X.K H ws (datL xs) → PySem.W.EachIs (fun (u : Value) (p : V × D) => ∃ as, Reads s.heap u p.2.dat as) its (ws.zip xs)
  | [], _, xs, r, h => by cases r; exact .nil
  | w :: ws, _, [], r, h => by cases h
  | w :: ws, _, x :: xs, r, h => by
    cases r with
    | cons r1 r2 =>
      cases h with
      | cons h1 h2 => exact .cons (Dp.reads I _ _ _ h1 r1) (each_reads I xs r2 h2)
theorem vals_of_each : ∀ {out : List Value} {ps : List (V × D)}, PySem.W.EachIs (fun (u : Value) (p : V × D) => RelV p.1 u) out ps → Vals (ps.map (·.1)) out
  | _, _, .nil => .nil
  | _, _, .cons h t => .cons h (vals_of_each t)
theorem srt_out {ws : List V} {xs : List D} {out : List Value} (eo : PySem.W.EachIs (fun (u : Value) (p : V × D) => RelV p.1 u) out ((ws.zip xs).mergeSort (PySem.W.dataLe false fun p => p.2.dat))) : Vals (srtV ws xs) out := vals_of_each eo
theorem cr_sortD (hu : X.A.units + 64 < cLine) : CallR X (.builtin "sorted") (rSortD X.K) := by
  intro pins s σ H vs us Q I r h
  obtain ⟨a, ws, xs, rfl, hq, hd, hs, q⟩ := h
  obtain ⟨u, rfl, rx⟩ := r.one
  cases rx
  obtain ⟨its, rv, pl, hz⟩ := I.list hq
  obtain ⟨h1, h2, h3, h4, h5⟩ := sortable_spec hs
  have hl : ws.length = xs.length := by rw [(DpAll.length hd), datL_map, List.length_map]
  have ez : (ws.zip xs).map (fun p => p.2.dat) = xs.map D.dat := by
    have e : (ws.zip xs).map (·.2) = xs := by rw [List.map_snd_zip (Nat.le_of_eq hl.symm)]
    conv => rhs; rw [← e]
    rw [List.map_map]
    rfl
  refine PySem.W.sorted_data (enc := fun p : V × D => p.2.dat) (bs := ws.zip xs) (vs := its) pl.isList (each_rel xs rv hl) (each_reads I xs rv hd) (by rw [ez]; exact h4) (by rw [ez]; exact h5) (by rw [List.length_zip]; omega) (fun p hp => ?_) fun out ho eo => ?_
  · have hx : p.2 ∈ xs := (List.of_mem_zip hp).2
    have := (okD_dat _ _ (okDL_mem h1 _ hx)).2
    omega
  · have hv := srt_out eo
    obtain ⟨ep, he⟩ := PyProof.Rows.sortedAll_at s.heap its out.toArray
    refine ⟨.ref _, upd H (s.heap.objs.size + 1) (.lst (srtV ws xs)), I.laid (t' := s.toks) (fun _ _ => PyProof.Rows.sortedAll_old) (Nat.le_succ _) ⟨?_, out, ep, hv, he⟩, rfl, q _ (I.hok.fresh (Nat.le_succ _))⟩
    have e1 : (srtV ws xs).length = ws.length := by
      unfold srtV
      rw [List.length_map, List.length_mergeSort, List.length_zip]
      omega
    rw [e1]
    exact hz
end
section
variable {K : PySem.W.Frag} {mg : Str → Option Value} {Z : Addr → Prop} {H : Hp}
theorem reps_all : ∀ {ds : List D} {vs : List V}, Reps K mg Z H ds vs [] → ∀ p ∈ vs.zip ds, Rep K mg Z H p.2 p.1 []
  | [], vs, h, p, m => by obtain ⟨rfl, _⟩ := h; cases m
  | d :: ds, vs, h, p, m => by
    obtain ⟨v, r, F1, F2, rfl, h1, h2, e⟩ := h
    have e2 := List.append_eq_nil_iff.mp e.symm
    rw [e2.1] at h1
    rw [e2.2] at h2
    rw [List.zip_cons_cons] at m
    rcases List.mem_cons.mp m with rfl | m
    · exact h1
    · exact reps_all h2 p m
theorem reps_of : ∀ (ps : List (V × D)), (∀ p ∈ ps, Rep K mg Z H p.2 p.1 []) → Reps K mg Z H (ps.map (·.2)) (ps.map (·.1)) []
  | [], _ => ⟨rfl, rfl⟩
  | p :: ps, h => ⟨p.1, _, [], [], rfl, h p List.mem_cons_self, reps_of ps (fun q m => h q (List.mem_cons_of_mem _ m)), rfl⟩
theorem reps_srt {xs : List D} {ws : List V} (h : Reps K mg Z H xs ws []) : Reps K mg Z H (xs.mergeSort sLe) (srtV ws xs) [] := by
  have q := reps_of (K := K) (mg := mg) (Z := Z) (H := H) ((ws.zip xs).mergeSort fun a b => sLe a.2 b.2) (fun p m => reps_all h p ((List.mergeSort_perm _ _).mem_iff.mp m))
  have e : ((ws.zip xs).mergeSort fun a b => sLe a.2 b.2).map (·.2) = xs.mergeSort sLe := by
    rw [PySem.W.sort_maps (s := sLe) (fun p : V × D => p.2) (fun _ _ _ _ => rfl), List.map_snd_zip (by rw [h.length]; exact Nat.le_refl _)]
  rw [e] at q
  exact q
end
theorem ok_sorted {c : Vc} : OkF c (rSortD c.K) dSorted := by
  intro Z H ds vs G z Q e r w h
  unfold dSorted at e
  split at e
  · split at e
    · rename_i hs
      cases e
      obtain ⟨v, rfl, r1⟩ := r.one'
      obtain ⟨a, us, G1, rfl, s1, q1, l1⟩ := r1.lst
      obtain ⟨h1, h2, h3, h4, h5⟩ := sortable_spec hs
      have g := Reps.noown _ _ _ q1 h2
      subst g
      refine ⟨a, us, _, rfl, s1, Reps.dp _ 60 _ _ q1 h1, hs, fun p hp => ?_⟩
      exact h Z _ _ _ (Step.fresh w (List.nil_sublist _) hp mut_lst) ⟨p, _, [], rfl, upd_same, (reps_srt q1).new hp, rfl⟩
    · cases e
  · cases e
  · cases e
end VL

set_option Elab.async false
set_option maxRecDepth 100000
/-! VG: statements, methods that change their owner, calls of defs. -/
namespace VL
open PySem L2 PySem.Spec PyProof.Rows

theorem notin_ne {l : List Nat} {i j : Nat} (h : i ∉ l) (m : j ∈ l) : i ≠ j := fun e => h (by rw [e]; exact m)
/-! ### statements -/
def sAsg (i : Nat) (f : CE) : CS := fun env => (f env).bindS fun d e => .nx (e.set i d)
/-- a value that is stored is frozen -/
def cFV (f : CE) : CE := fun env => (f env).bind fun d e => .ok d.frz e
def setAll : List Nat → List D → List D → List D
  | i :: is, d :: ds, env => setAll is ds (env.set i d)
  | _, _, env => env
def sUnp (is : List Nat) (f : CE) : CS := fun env => (f env).bindS fun d e => match d with
  | .tup ds => if ds.length = is.length then .nx (setAll is ds e) else .bad
  | .ktp ds => if ds.length = is.length then .nx (setAll is ds e) else .bad
  | _ => .bad
def sExpr (f : CE) : CS := fun env => (f env).bindS fun _ e => .nx e
def sRet (f : CE) : CS := fun env => (f env).bindS fun d e => .rt d e
def sRetN : CS := fun env => .rt .non env
def sIf (t : CE) (a b : CS) : CS := fun env => (t env).bindS fun d e => match d with
  | .bl true => a e
  | .bl false => b e
  | _ => .bad
def sNil : CS := fun env => .nx env
def RS.andThen (r : RS) (k : List D → RS) : RS := match r with
  | .nx e => k e
  | r => r
def sSeq (a b : CS) : CS := fun env => (a env).andThen b
def sBrk : CS := fun env => .bk env
def sCont : CS := fun env => .ct env
def sBad : CS := fun _ => .bad
section
variable {c : Vc} {σ : L2.St} {H : Hp} {E : Ends}
theorem asg_run {i : Nat} {f : CE} (hi : i ∉ c.ios) (h : tS c (sAsg i f) E σ H) : tV c f σ H fun v H1 => E.nx (σ.set i (some v)) H1 := by
  obtain ⟨Z, env, F, a, h⟩ := h
  refine tV.go a ?_
  unfold sAsg at h
  cases e : f env with
  | bad => rw [e] at h; exact h
  | exc x e1 => rw [e] at h; exact postXS.at h a.pin
  | ok d e1 =>
    rw [e] at h
    simp only [RE.bindS] at h
    intro Z1 H1 v G F1 s r a1
    obtain ⟨F', r', n', i'⟩ := a1.rep.set (i := i) r s.wd.nd
    refine h Z1 H1 F' _ (s.sub n' i') r' fun j hj => ?_
    rw [List.getElem?_set_ne (notin_ne hi hj)]
    exact a.pin j hj
theorem fv_run {f : CE} {Q : VK} (h : tV c (cFV f) σ H Q) : tV c f σ H Q := by
  obtain ⟨Z, env, F, a, h⟩ := h
  refine ⟨Z, env, F, a, ?_⟩
  unfold cFV at h
  cases e : f env with
  | bad => rw [e] at h; exact h
  | exc x e1 => rw [e] at h; exact h
  | ok d e1 =>
    rw [e] at h
    simp only [RE.bind] at h
    intro Z1 H1 v G F1 s r re
    have t := s.freeze
    exact h _ H1 v [] F1 t (Rep.frz (fun _ z => .inl z) d v G r (fun b m => .inr m)) (RepS.frame (X := []) (fun _ _ e _ => e) (fun b m => by cases m) (fun _ z => .inl z) re (fun b _ m => by cases m))
theorem expr_run {f : CE} (h : tS c (sExpr f) E σ H) : tV c f σ H fun _ H1 => E.nx σ H1 := by
  obtain ⟨Z, env, F, a, h⟩ := h
  refine tV.go a ?_
  unfold sExpr at h
  cases e : f env with
  | bad => rw [e] at h; exact h
  | exc x e1 => rw [e] at h; exact postXS.at h a.pin
  | ok d e1 =>
    rw [e] at h
    simp only [RE.bindS] at h
    exact fun Z1 H1 v G F1 s r a1 => h Z1 H1 F1 σ s.drop a1.rep a.pin
theorem ret_run {f : CE} (h : tS c (sRet f) E σ H) : tV c f σ H E.rt := by
  obtain ⟨Z, env, F, a, h⟩ := h
  refine tV.go a ?_
  unfold sRet at h
  cases e : f env with
  | bad => rw [e] at h; exact h
  | exc x e1 => rw [e] at h; exact postXS.at h a.pin
  | ok d e1 =>
    rw [e] at h
    simp only [RE.bindS] at h
    exact fun Z1 H1 v G F1 s r a1 => h Z1 H1 v G F1 σ s r a1.rep a.pin
theorem retN_run (h : tS c sRetN E σ H) : E.rt .non H := by
  obtain ⟨Z, env, F, a, h⟩ := h
  exact h Z H .non [] F σ (Step.refl a.wd) ⟨rfl, rfl⟩ a.rep a.pin
theorem nil_run (h : tS c sNil E σ H) : E.nx σ H := by
  obtain ⟨Z, env, F, a, h⟩ := h
  exact h Z H F σ (Step.refl a.wd) a.rep a.pin
theorem if_runS {t : CE} {f g : CS} (h : tS c (sIf t f g) E σ H) : tIfS (tT c t) (tS c f) (tS c g) E σ H := by
  obtain ⟨Z, env, F, a, h⟩ := h
  refine tT.go a ?_
  unfold sIf at h
  cases e : t env with
  | bad => rw [e] at h; exact h
  | exc x e1 => rw [e] at h; exact postXS.at h a.pin
  | ok d e1 =>
    rw [e] at h
    simp only [RE.bindS] at h
    cases d with
    | bl b =>
      refine ⟨b, rfl, fun Z' H' F' s a' => ?_⟩
      cases b with
      | true => rw [if_pos rfl]; exact ⟨Z', e1, F', a', postS.later h s⟩
      | false => rw [if_neg Bool.false_ne_true]; exact ⟨Z', e1, F', a', postS.later h s⟩
    | _ => exact h.elim
theorem seq_run {f g : CS} (h : tS c (sSeq f g) E σ H) : tSeq (tS c f) (tS c g) E σ H := by
  obtain ⟨Z, env, F, a, h⟩ := h
  refine ⟨Z, env, F, a, ?_⟩
  unfold sSeq at h
  cases e : f env with
  | nx e1 => rw [e] at h; exact fun Z' H' F' σ' s re p => ⟨Z', e1, F', ⟨re, s.wd, p⟩, postS.later h s⟩
  | rt d e1 => rw [e] at h; exact h
  | bk e1 => rw [e] at h; exact h
  | ct e1 => rw [e] at h; exact h
  | exc x e1 => rw [e] at h; exact h
  | bad => rw [e] at h; exact h
/-- unpacking -/
def gSet : List Nat → TGs
  | [] => gNil
  | i :: is => gCons (gName i) (gSet is)
theorem unp_all : ∀ (is : List Nat) (ds : List D) (vs : List V) {Z : Addr → Prop} {H : Hp} {env : List D} {σ : L2.St} {F G : List Addr} {Q : L2.St → Hp → Prop}, (∀ i ∈ is, i ∉ c.ios) → ds.length = is.length → c.Rs Z H ds vs G → c.E Z H env σ F → Wd Z H (G ++ F) → c.Pin σ →
    (∀ F' σ', F'.Nodup → (∀ a ∈ F', a ∈ G ++ F) → c.E Z H (setAll is ds env) σ' F' → c.Pin σ' → Q σ' H) → gSet is vs σ H Q
  | [], [], vs, Z, H, env, σ, F, G, Q, _, _, r, re, w, p, k => by
    obtain ⟨rfl, rfl⟩ := r
    exact ⟨rfl, k F σ w.right.nd (fun a m => List.mem_append_right _ m) re p⟩
  | [], d :: ds, vs, Z, H, env, σ, F, G, Q, _, hl, r, re, w, p, k => by simp at hl
  | i :: is, [], vs, Z, H, env, σ, F, G, Q, _, hl, r, re, w, p, k => by simp at hl
  | i :: is, d :: ds, vs, Z, H, env, σ, F, G, Q, hi, hl, r, re, w, p, k => by
    obtain ⟨v, q, G1, G2, rfl, r1, r2, rfl⟩ := r
    have w1 : (G1 ++ F).Nodup := w.nd.sublist (List.Sublist.append_right (List.sublist_append_left _ _) _)
    obtain ⟨F1, re1, n1, i1⟩ := RepS.set (i := i) re r1 w1
    refine ⟨v, q, rfl, ?_⟩
    have nd : (G2 ++ F1).Nodup := by
      have nd0 := w.nd
      rw [List.append_assoc] at nd0
      obtain ⟨a1, a2, a3⟩ := List.nodup_append.mp nd0
      obtain ⟨b1, b2, b3⟩ := List.nodup_append.mp a2
      refine List.nodup_append.mpr ⟨b1, n1, fun a m b n e => ?_⟩
      subst e
      rcases List.mem_append.mp (i1 a n) with z | z
      · exact a3 a z a (List.mem_append_left _ m) rfl
      · exact b3 a m a z rfl
    have sub : ∀ a ∈ G2 ++ F1, a ∈ (G1 ++ G2) ++ F := fun a m => by
      rcases List.mem_append.mp m with m | m
      · exact List.mem_append_left _ (List.mem_append_right _ m)
      · rcases List.mem_append.mp (i1 a m) with m | m
        · exact List.mem_append_left _ (List.mem_append_left _ m)
        · exact List.mem_append_right _ m
    refine unp_all is ds q (fun j m => hi j (List.mem_cons_of_mem _ m)) (by simpa using hl) r2 re1 (w.sub nd sub) (fun j hj => ?_) fun F' σ' n' i' e' p' => k F' σ' n' (fun a m => sub a (i' a m)) e' p'
    rw [List.getElem?_set_ne (notin_ne (hi i List.mem_cons_self) hj)]
    exact p j hj
theorem unp_run {is : List Nat} {f : CE} (hi : ∀ i ∈ is, i ∉ c.ios) (h : tS c (sUnp is f) E σ H) : tV c f σ H fun v H1 => ∃ a xs, v = .ref a ∧ SqT c.K H1 a xs ∧ xs.length = is.length ∧ gSet is xs σ H1 E.nx := by
  obtain ⟨Z, env, F, a, h⟩ := h
  refine tV.go a ?_
  unfold sUnp at h
  cases e : f env with
  | bad => rw [e] at h; exact h
  | exc x e1 => rw [e] at h; exact postXS.at h a.pin
  | ok d e1 =>
    rw [e] at h
    simp only [RE.bindS] at h
    intro Z1 H1 v G F1 s r a1
    split at h
    · split at h
      · rename_i hl
        obtain ⟨b, vs, rfl, hb, rs⟩ := r
        refine ⟨b, vs, rfl, SqT.of hb, by rw [rs.length]; exact hl, unp_all is _ vs hi hl rs a1.rep s.wd a.pin fun F' σ' n' i' e' p' => ?_⟩
        exact h Z1 H1 F' σ' (s.sub n' i') e' p'
      · exact h.elim
    · split at h
      · rename_i hl
        obtain ⟨b, vs, rfl, hb, rs, rfl⟩ := r
        refine ⟨b, vs, rfl, KT.sq hb, by rw [rs.length]; exact hl, unp_all is _ vs hi hl rs a1.rep s.wd a.pin fun F' σ' n' i' e' p' => ?_⟩
        exact h Z1 H1 F' σ' (s.sub n' i') e' p'
      · exact h.elim
    · exact h.elim
end
section
variable {c : Vc} {X : Cx} {pos pos' : Pos} {e : Expr} {f : CE}
theorem ss_asg {i : Nat} {x : Str} (hi : i ∉ c.ios) (hN : X.N.Nodup) (hx : X.N[i]? = some x) (hl : Loc X.env.scope x) (he : PE X e (tV c f)) (hs : swapsWith e (some (.Name x pos')) pos.line X.env = pure false := by rfl)
    (hf : X.fn x = true ∨ X.env.scope.names.lookup x = some .local := by first | exact .inl rfl | exact .inr rfl) : PS X (.Assign [.Name x pos'] e pos) (tS c (sAsg i f)) :=
  (ps_set hN hx hl he hs hf).imp fun D σ H h => asg_run hi h
theorem se_fv (he : PE X e (tV c f)) : PE X e (tV c (cFV f)) := he.imp fun σ H Q h => fv_run h
theorem se_loan {fz : List Nat} (he : PE X e (tV c f)) : PE X e (tV c (cLoan fz f)) := he.imp fun σ H Q h => loan_run h
theorem st_loan {fz : List Nat} (he : PT X e (tT c f)) : PT X e (tT c (cLoan fz f)) := he.imp fun σ H Q h => loan_runT h
theorem se_freeze {fz : List Nat} (he : PE X e (tV c f)) : PE X e (tV c (cFreeze fz f)) := he.imp fun σ H Q h => freeze_run h
theorem st_freeze {fz : List Nat} (he : PT X e (tT c f)) : PT X e (tT c (cFreeze fz f)) := he.imp fun σ H Q h => freeze_runT h
theorem ss_expr (he : PE X e (tV c f)) (hs : swapsWith e none pos.line X.env = pure false := by rfl) : PS X (.Expr e pos) (tS c (sExpr f)) := (ps_expr he hs).imp fun D σ H h => expr_run h
theorem ss_doc {x : Str} {j : Nat} : PS X (.Expr (.Constant (.str x) j pos') pos) (tS c sNil) := ps_doc.imp fun D σ H h => nil_run h
theorem ss_ret (he : PE X e (tV c f)) : PS X (.Return (some e) pos) (tS c (sRet f)) := (ps_ret he).imp fun D σ H h => ret_run h
theorem ss_retN : PS X (.Return none pos) (tS c sRetN) := ps_retN.imp fun D σ H h => retN_run h
theorem ss_if {a b : List Stmt} {fa fb : CS} (ht : PT X e (tT c f)) (ha : PSs X a (tS c fa)) (hb : PSs X b (tS c fb)) : PS X (.If e a b pos) (tS c (sIf f fa fb)) := (ps_if ht ha hb).imp fun D σ H h => if_runS h
theorem ss_nil : PSs X [] (tS c sNil) := pss_nil.imp fun D σ H h => nil_run h
theorem ss_cons {st : Stmt} {rest : List Stmt} {fa fb : CS} (ha : PS X st (tS c fa)) (hb : PSs X rest (tS c fb)) : PSs X (st :: rest) (tS c (sSeq fa fb)) := (pss_cons ha hb).imp fun D σ H h => seq_run h
theorem ss_one {st : Stmt} {fa : CS} (ha : PS X st (tS c fa)) : PSs X [st] (tS c fa) := pss_one ha
theorem ss_brk : PS X (.Break pos) (tS c sBrk) := ps_break.imp fun D σ H ⟨Z, env, F, a, h⟩ => h Z H F σ (Step.refl a.wd) a.rep a.pin
theorem ss_cont : PS X (.Continue pos) (tS c sCont) := ps_continue.imp fun D σ H ⟨Z, env, F, a, h⟩ => h Z H F σ (Step.refl a.wd) a.rep a.pin
theorem ss_pass : PS X (.Pass pos) (tS c sNil) := ps_pass.imp fun D σ H h => nil_run h
/-- never reached -/
theorem ss_bad {st : Stmt} : PS X st (tS c sBad) := ps_never.imp fun D σ H ⟨_, _, _, _, h⟩ => h
/-- names as targets -/
inductive Tgs (X : Cx) : List Expr → List Nat → Prop where
  | nil : Tgs X [] []
  | cons {i : Nat} {x : Str} {p : Pos} {es : List Expr} {is : List Nat} : X.N[i]? = some x → Loc X.env.scope x → (X.fn x = true ∨ X.env.scope.names.lookup x = some .local) → Tgs X es is → Tgs X (.Name x p :: es) (i :: is)
theorem assignEach_name {x : Str} {p : Pos} {es : List Expr} {env : Env} : (assignEach (.Name x p :: es) env).map (·.2) = assign (.Name x p) env :: (assignEach es env).map (·.2) := by rfl
theorem assignEach_len {x : Str} {p : Pos} {es : List Expr} {env : Env} : (assignEach (.Name x p :: es) env).length = (assignEach es env).length + 1 := by rfl
theorem Tgs.pgs (hN : X.N.Nodup) : ∀ {es : List Expr} {is : List Nat}, Tgs X es is → PGs X es (gSet is)
  | _, _, .nil => pgs_nil
  | _, _, .cons h1 h2 h3 t => pgs_cons (pg_name hN h1 h2 h3) (t.pgs hN) assignEach_name
theorem Tgs.len : ∀ {es : List Expr} {is : List Nat}, Tgs X es is → (assignEach es X.env).length = is.length
  | _, _, .nil => rfl
  | _, _, .cons _ _ _ t => assignEach_len.trans (by rw [t.len]; rfl)
theorem ss_unp {es : List Expr} {is : List Nat} {k : Nat} (hi : ∀ i ∈ is, i ∉ c.ios) (hc : X.calm = true) (hK : X.K = c.K) (hN : X.N.Nodup) (ht : Tgs X es is) (he : PE X e (tV c f)) (hst : (assignEach es X.env).findIdx? (·.1) = none := by rfl)
    (hs : swapsWithSole [.Tuple es k pos'] e pos.line X.env = pure false := by rfl) (hw : swappedStores [.Tuple es k pos'] e X.env = pure none := by rfl) (h1 : (assignEach [.Tuple es k pos'] X.env).map (·.2) = [assign (.Tuple es k pos') X.env] := by rfl) :
    PS X (.Assign [.Tuple es k pos'] e pos) (tS c (sUnp is f)) :=
  (ps_asg he (pg_tup (n := is.length) hc (ht.pgs hN) ht.len hst) hs hw h1).imp fun D σ H h => by
    have q := unp_run hi h
    rw [← hK] at q
    exact q
end
end VL

set_option Elab.async false
set_option maxRecDepth 100000
/-! VH: methods that change their owner, stores; defs and their calls. -/
namespace VL
open PySem L2 PySem.Spec PyProof.Rows

/-! ### x.m(..), x an owned list or dict in a slot -/
def cMut (i : Nat) (ty : D → Bool) (m : D → List D → Option (D × D)) (fs : List CE) : CE := fun env => match env[i]? with
  | some d0 => if ty d0 then (evA fs env).bind fun ds e => match e[i]? with
      | some d => match m d ds with
        | some (res, d') => .ok res (e.set i d')
        | none => .bad
      | none => .bad
    else .bad
  | none => .bad
/-- the reading r does m to its owner -/
def OkM (c : Vc) (r : V → List V → Hp → VK → Prop) (m : D → List D → Option (D × D)) : Prop :=
  ∀ Z H d ds v vs A G res d' Q, m d ds = some (res, d') → d.isDead = false → c.R Z H d v A → c.Rs Z H ds vs G → Wd Z H (A ++ G) →
    (∀ Z' H' u G' A', Step Z Z' H H' (A ++ G) (G' ++ A') → c.R Z' H' res u G' → c.R Z' H' d' v A' → Q u H') → r v vs H Q
section
variable {c : Vc} {σ : L2.St} {H : Hp}
theorem mut_at {r : V → List V → Hp → VK → Prop} {m : D → List D → Option (D × D)} (ok : OkM c r m) {i : Nat} {d : D} {ds : List D} {res d' : D} {Z Z1 : Addr → Prop} {H1 : Hp} {F G F1 : List Addr} {e : List D} {vs : List V} {Q : VK} (s : Step Z Z1 H H1 F (G ++ F1))
    (rs : c.Rs Z1 H1 ds vs G) (a1 : c.At Z1 H1 e σ F1) (ei : e[i]? = some d) (em : m d ds = some (res, d')) (nd : d.isDead = false)
    (h : ∀ Z' H' u G' F', Step Z Z' H H' F (G' ++ F') → c.R Z' H' res u G' → c.At Z' H' (e.set i d') σ F' → Q u H') : ∃ v, σ[i]? = some (some v) ∧ r v vs H1 Q := by
  obtain ⟨v, A, F2, hv, rv, r2, p⟩ := a1.rep.take ei nd
  refine ⟨v, hv, ?_⟩
  have s1 : Step Z Z1 H H1 F ((A ++ G) ++ F2) := by
    refine s.perm ((List.Perm.append_left G p).trans ?_)
    rw [← List.append_assoc]
    exact List.Perm.append_right F2 List.perm_append_comm
  refine ok Z1 H1 d ds v vs A G res d' Q em nd rv rs s1.wd.left fun Z2 H2 u G' A' s2 ru rd => ?_
  have t := s2.beside2 s1.wd
  have re2 := s2.envr s1.wd r2
  have tt : Step Z Z2 H H2 F (G' ++ (A' ++ F2)) := by
    rw [← List.append_assoc]
    exact s1.trans t
  obtain ⟨F3, re3, n3, i3⟩ := RepS.put (i := i) re2 rd tt.wd.right.nd hv
  rw [List.set_set] at re3
  have nd3 : (G' ++ F3).Nodup := List.nodup_append.mpr ⟨tt.wd.left.nd, n3, fun a m b n e => by subst e; exact tt.wd.dis a m (i3 a n)⟩
  have s3 : Step Z Z2 H H2 F (G' ++ F3) := tt.sub nd3 fun a m => by
    rcases List.mem_append.mp m with m | m
    · exact List.mem_append_left _ m
    · exact List.mem_append_right _ (i3 a m)
  exact h Z2 H2 u G' F3 s3 ru ⟨re3, s3.wd.right, a1.pin⟩
theorem mut_run {r : V → List V → Hp → VK → Prop} {m : D → List D → Option (D × D)} {ty : D → Bool} {T : V → Hp → Prop} {i : Nat} {fs : List CE} {Q : VK} (ht : ∀ Z H d v G, ty d = true → c.R Z H d v G → T v H) (hnd : ∀ d ds p, m d ds = some p → d.isDead = false)
    (htd : ∀ d, ty d = true → d.isDead = false) (ok : OkM c r m) (h : tV c (cMut i ty m fs) σ H Q) : tVar i σ H fun x H1 => T x H1 ∧ tAs c fs σ H1 fun xs H2 => r x xs H2 Q := by
  obtain ⟨Z, env, F, a, h⟩ := h
  unfold cMut at h
  cases e0 : env[i]? with
  | none => rw [e0] at h; exact h.elim
  | some d0 =>
    rw [e0] at h
    cases et : ty d0 with
    | false => simp [et] at h; exact h.elim
    | true =>
      simp only [et, if_true] at h
      obtain ⟨v0, A0, hv0, rv0, _⟩ := a.rep.get e0 (htd d0 et)
      refine ⟨v0, hv0, ht Z H d0 v0 A0 et rv0, tAs.go a ?_⟩
      cases e : evA fs env with
      | bad => rw [e] at h; exact h
      | exc x e1 => rw [e] at h; exact h
      | ok ds e1 =>
        rw [e] at h
        simp only [RA.bind] at h
        intro Z1 H1 vs G F1 s rs a1
        cases ei : e1[i]? with
        | none => rw [ei] at h; exact h.elim
        | some d =>
          rw [ei] at h
          simp only at h
          cases em : m d ds with
          | none => rw [em] at h; exact h.elim
          | some p =>
            obtain ⟨res, d'⟩ := p
            rw [em] at h
            obtain ⟨v, hv, q⟩ := mut_at (Q := Q) ok s rs a1 ei em (hnd _ _ _ em) fun Z' H' u G' F' s' ru a' => h Z' H' u G' F' s' ru a'.rep
            rw [hv0] at hv
            cases hv
            exact q
end
def isLst : D → Bool
  | .lst true _ => true
  | _ => false
theorem isLst_ty {c : Vc} : ∀ Z H d v G, isLst d = true → c.R Z H d v G → tyV c.K "list" v H := fun Z H d v G h r => by
  unfold isLst at h
  split at h
  · obtain ⟨a, us, G1, rfl, s1, _⟩ := Rep.lst r
    exact .inl ⟨rfl, _, s1⟩
  · cases h
theorem isLst_dead : ∀ d, isLst d = true → d.isDead = false := fun d h => by
  unfold isLst at h
  split at h
  · rfl
  · cases h
def mAppend : D → List D → Option (D × D)
  | .lst true xs, [x] => if xs.length < sizeLine then some (.non, .lst true (xs ++ [x])) else none
  | _, _ => none
def mExtend : D → List D → Option (D × D)
  | .lst true xs, [.lst true ys] => if xs.length + ys.length ≤ sizeLine then some (.non, .lst true (xs ++ ys)) else none
  | _, _ => none
def mPop : D → List D → Option (D × D)
  | .lst true xs, [] => if ownL xs then none else (xs[xs.length - 1]?).map fun x => (x, .lst true xs.dropLast)
  | .lst true xs, [.int i] => if ownL xs ∨ ¬ (-(2 ^ 63) ≤ i ∧ i < 2 ^ 63) then none else (seqIndex? i xs.length).bind fun k => (xs[k]?).map fun x => (x, .lst true (xs.eraseIdx k))
  | _, _ => none
def mReverse : D → List D → Option (D × D)
  | .lst true xs, [] => if ownL xs then none else some (.non, .lst true xs.reverse)
  | _, _ => none
def mInsert : D → List D → Option (D × D)
  | .lst true xs, [.int i, y] => if ownL xs ∨ y.own ∨ ¬ (xs.length < sizeLine ∧ 0 ≤ i ∧ i < 2 ^ 63) then none else some (.non, .lst true (xs.take i.toNat ++ [y] ++ xs.drop i.toNat))
  | _, _ => none
section
variable {K : PySem.W.Frag} {mg : Str → Option Value} {Z Z' : Addr → Prop} {H H' : Hp} {F A B C : List Addr}
/-- the owner at p is written: p :: A becomes p :: B -/
theorem Step.wr (w : Wd Z H (p :: A)) {o : HO} (mu : Mut (some o)) (hb : B.Nodup) (hs : ∀ a ∈ B, a ∈ A) : Step Z Z H (upd H p o) (p :: A) (p :: B) := by
  have np : p ∉ B := fun m => (List.nodup_cons.mp w.nd).1 (hs p m)
  exact ((Step.refl w).sub (B := p :: B) (List.nodup_cons.mpr ⟨np, hb⟩) (fun a m => by
    rcases List.mem_cons.mp m with e | m
    · rw [e]; exact List.mem_cons_self
    · exact List.mem_cons_of_mem _ (hs a m))).write List.mem_cons_self (.inl List.mem_cons_self) mu
/-- trees beside a written owner stand on -/
theorem Reps.wrote (w : Wd Z H (p :: A)) {o : HO} {ds : List D} {vs : List V} {G : List Addr} (r : Reps K mg Z H ds vs G) (hn : p ∉ G) : Reps K mg Z (upd H p o) ds vs G := by
  refine Reps.frame (X := [p]) (fun b o' e nb => ?_) (fun b m => ?_) (fun _ z => z) ds vs G r (fun b m n => hn ?_)
  · rw [upd_ne (fun q => nb (by rw [q]; exact List.mem_singleton.mpr rfl))]
    exact e
  · have e : b = p := by simpa using m
    rw [e]
    exact w.mu p List.mem_cons_self
  · have e : b = p := by simpa using n
    rw [← e]; exact m
theorem Rep.wrote (w : Wd Z H (p :: A)) {o : HO} {d : D} {v : V} {G : List Addr} (r : Rep K mg Z H d v G) (hn : p ∉ G) : Rep K mg Z (upd H p o) d v G := by
  have q := Reps.wrote (o := o) w (Reps.one r) hn
  exact q.one_of
end
section
variable {c : Vc}
theorem okM_append : OkM c rAppend mAppend := by
  intro Z H d ds v vs A G res d' Q e nd r rs w h
  unfold mAppend at e
  split at e
  · split at e
    · rename_i hl
      cases e
      obtain ⟨a, us, G1, rfl, s1, q1, rfl⟩ := r
      obtain ⟨y, rfl, ry⟩ := rs.one'
      have w' : Wd Z H (a :: (G1 ++ G)) := by simpa using w
      have na : a ∉ G1 ++ G := (List.nodup_cons.mp w'.nd).1
      refine ⟨a, us, y, rfl, rfl, s1, by rw [q1.length]; exact hl, ?_⟩
      have st := Step.wr (o := .lst (us ++ [y])) w' mut_lst (List.nodup_cons.mp w'.nd).2 (fun _ m => m)
      refine h Z _ _ [] (a :: (G1 ++ G)) (by simpa using st) ⟨rfl, rfl⟩ ⟨a, _, _, rfl, upd_same, ?_, rfl⟩
      exact Reps.append (Reps.wrote w' q1 (fun m => na (List.mem_append_left _ m))) (Reps.one (Rep.wrote w' ry (fun m => na (List.mem_append_right _ m))))
    · cases e
  · cases e
theorem okM_extend : OkM c rExtend mExtend := by
  intro Z H d ds v vs A G res d' Q e nd r rs w h
  unfold mExtend at e
  split at e
  · split at e
    · rename_i hl
      cases e
      obtain ⟨a, us, G1, rfl, s1, q1, rfl⟩ := r
      obtain ⟨y, rfl, b, ws, G2, rfl, s2, q2, rfl⟩ := rs.one'
      have w' : Wd Z H (a :: (G1 ++ b :: G2)) := by simpa using w
      have na : a ∉ G1 ++ b :: G2 := (List.nodup_cons.mp w'.nd).1
      refine ⟨a, b, us, ws, rfl, rfl, s1, s2, by rw [q1.length, q2.length]; exact hl, ?_⟩
      have sub : (G1 ++ G2).Sublist (G1 ++ b :: G2) := List.Sublist.append_left (List.sublist_cons_self _ _) _
      have st := Step.wr (o := .lst (us ++ ws)) w' mut_lst ((List.nodup_cons.mp w'.nd).2.sublist sub) (fun _ m => sub.subset m)
      refine h Z _ _ [] (a :: (G1 ++ G2)) (by simpa using st) ⟨rfl, rfl⟩ ⟨a, _, _, rfl, upd_same, ?_, rfl⟩
      exact Reps.append (Reps.wrote w' q1 (fun m => na (List.mem_append_left _ m))) (Reps.wrote w' q2 (fun m => na (List.mem_append_right _ (List.mem_cons_of_mem _ m))))
    · cases e
  · cases e
/-- an owner without owned items: its items are written -/
theorem okM_plain {r : V → List V → Hp → VK → Prop} {m : D → List D → Option (D × D)} (hm : ∀ d ds res d', m d ds = some (res, d') → ∃ xs ys, d = .lst true xs ∧ d' = .lst true ys ∧ ownL xs = false ∧ ownL ds = false ∧
    ∀ Z H a us vs Q, H a = some (.lst us) → c.Rs Z H xs us [] → c.Rs Z H ds vs [] → (∀ zs u, (∀ Z' H', (∀ d v, c.R Z H d v [] → c.R Z' H' d v []) → c.Rs Z' H' ys zs [] ∧ c.R Z' H' res u []) → Q u (upd H a (.lst zs))) → r (.ref a) vs H Q) : OkM c r m := by
  intro Z H d ds v vs A G res d' Q e nd rd rs w h
  obtain ⟨xs, ys, rfl, rfl, o1, o2, k⟩ := hm d ds res d' e
  obtain ⟨a, us, G1, rfl, s1, q1, rfl⟩ := rd
  have g1 := Reps.noown _ _ _ q1 o1
  have g2 := Reps.noown _ _ _ rs o2
  subst g1 g2
  have w' : Wd Z H [a] := by simpa using w
  refine k Z H a us vs Q s1 q1 rs fun zs u hz => ?_
  have up : ∀ o d v, c.R Z H d v [] → c.R Z (upd H a o) d v [] := fun o d v r => Rep.wrote w' r (fun m => by cases m)
  obtain ⟨z1, z2⟩ := hz Z (upd H a (.lst zs)) (up _)
  have st := Step.wr (o := .lst zs) w' mut_lst List.nodup_nil (fun _ m => m)
  exact h Z _ u [] [a] (by simpa using st) z2 ⟨a, zs, [], rfl, upd_same, z1, rfl⟩
theorem reps_up {Z Z' : Addr → Prop} {H H' : Hp} (k : ∀ d v, c.R Z H d v [] → c.R Z' H' d v []) : ∀ {ds : List D} {vs : List V}, c.Rs Z H ds vs [] → c.Rs Z' H' ds vs []
  | [], vs, h => h
  | d :: ds, vs, h => by
    obtain ⟨v, r, F1, F2, rfl, h1, h2, e⟩ := h
    have e2 := List.append_eq_nil_iff.mp e.symm
    rw [e2.1] at h1
    rw [e2.2] at h2
    exact ⟨v, r, [], [], rfl, k _ _ h1, reps_up k h2, rfl⟩
theorem reps_get0 {Z : Addr → Prop} {H : Hp} {ds : List D} {vs : List V} {i : Nat} {d : D} (h : c.Rs Z H ds vs []) (e : ds[i]? = some d) : ∃ v, vs[i]? = some v ∧ c.R Z H d v [] := by
  obtain ⟨v, F1, e1, r, s⟩ := Reps.getS h e
  exact ⟨v, e1, by rw [List.sublist_nil.mp s] at r; exact r⟩
theorem reps_dropLast {Z : Addr → Prop} {H : Hp} {ds : List D} {vs : List V} (h : c.Rs Z H ds vs []) : c.Rs Z H ds.dropLast vs.dropLast [] := by
  rw [List.dropLast_eq_take, List.dropLast_eq_take, h.length]
  exact Reps.take _ h
theorem reps_erase {Z : Addr → Prop} {H : Hp} {ds : List D} {vs : List V} (k : Nat) (h : c.Rs Z H ds vs []) : c.Rs Z H (ds.eraseIdx k) (vs.eraseIdx k) [] := by
  rw [List.eraseIdx_eq_take_drop_succ, List.eraseIdx_eq_take_drop_succ]
  exact Reps.append (Reps.take _ h) (Reps.drop _ h)
theorem reps_reverse {Z : Addr → Prop} {H : Hp} : ∀ {ds : List D} {vs : List V}, c.Rs Z H ds vs [] → c.Rs Z H ds.reverse vs.reverse []
  | [], vs, h => by obtain ⟨rfl, _⟩ := h; exact ⟨rfl, rfl⟩
  | d :: ds, vs, h => by
    obtain ⟨v, r, F1, F2, rfl, h1, h2, e⟩ := h
    have e2 := List.append_eq_nil_iff.mp e.symm
    rw [e2.1] at h1
    rw [e2.2] at h2
    rw [List.reverse_cons, List.reverse_cons]
    exact Reps.append (reps_reverse h2) (Reps.one h1)
def rPopAny : V → List V → Hp → VK → Prop := fun x vs H Q => rPop x vs H Q ∨ rPopAt x vs H Q
theorem mt_popAny {X : Cx} : MtM X "list.pop" rPopAny := by
  intro pins s σ H x xs v us Q I rx rs q
  rcases q with q | q
  · exact mt_pop pins s σ H x xs v us Q I rx rs q
  · exact mt_popAt pins s σ H x xs v us Q I rx rs q
theorem okM_pop : OkM c rPopAny mPop := okM_plain fun d ds res d' e => by
  unfold mPop at e
  split at e
  · split at e
    · cases e
    · rename_i ho
      obtain ⟨x, ex, e⟩ := Option.map_eq_some_iff.mp e
      cases e
      refine ⟨_, _, rfl, rfl, by simpa using ho, rfl, fun Z H a us vs Q h1 h2 h3 k => ?_⟩
      obtain ⟨y, ey, ry⟩ := reps_get0 h2 ex
      obtain ⟨rfl, _⟩ := h3
      rw [← h2.length] at ey
      exact .inl ⟨a, us, y, rfl, rfl, h1, ey, k _ _ fun Z' H' up => ⟨reps_up up (reps_dropLast h2), up _ _ ry⟩⟩
  · split at e
    · cases e
    · rename_i ho
      simp only [not_or, Bool.not_eq_true, Decidable.not_not] at ho
      obtain ⟨k0, ek, e⟩ := Option.bind_eq_some_iff.mp e
      obtain ⟨x, ex, e⟩ := Option.map_eq_some_iff.mp e
      cases e
      refine ⟨_, _, rfl, rfl, ho.1, rfl, fun Z H a us vs Q h1 h2 h3 k => ?_⟩
      obtain ⟨y, ey, ry⟩ := reps_get0 h2 ex
      obtain ⟨v, rfl, rfl, _⟩ := h3.one'
      rw [← h2.length] at ek
      exact .inr ⟨a, us, _, k0, y, rfl, rfl, h1, ho.2.1, ho.2.2, ek, ey, k _ _ fun Z' H' up => ⟨reps_up up (reps_erase _ h2), up _ _ ry⟩⟩
  · cases e
theorem okM_reverse : OkM c rReverse mReverse := okM_plain fun d ds res d' e => by
  unfold mReverse at e
  split at e
  · split at e
    · cases e
    · rename_i ho
      cases e
      refine ⟨_, _, rfl, rfl, by simpa using ho, rfl, fun Z H a us vs Q h1 h2 h3 k => ?_⟩
      obtain ⟨rfl, _⟩ := h3
      exact ⟨a, us, rfl, rfl, h1, k _ _ fun Z' H' up => ⟨reps_up up (reps_reverse h2), rfl, rfl⟩⟩
  · cases e
def rInsertV : V → List V → Hp → VK → Prop := fun x vs H Q => ∃ (l : Addr) (xs : List V) (i : Int) (y : V), x = .ref l ∧ vs = [.int i, y] ∧ H l = some (.lst xs) ∧ xs.length < sizeLine ∧ 0 ≤ i ∧ i < 2 ^ 63 ∧ Q .non (upd H l (.lst (xs.take i.toNat ++ [y] ++ xs.drop i.toNat)))
theorem okM_insert : OkM c rInsertV mInsert := okM_plain fun d ds res d' e => by
  unfold mInsert at e
  split at e
  · rename_i xs i y
    split at e
    · cases e
    · rename_i ho
      simp only [not_or, Bool.not_eq_true, Decidable.not_not] at ho
      obtain ⟨o1, o2, o3⟩ := ho
      cases e
      refine ⟨_, _, rfl, rfl, o1, by simp [ownL, D.own, o2], fun Z H a us vs Q h1 h2 h3 k => ?_⟩
      obtain ⟨v, w, F1, F2, rfl, ⟨rfl, rfl⟩, ry, e2⟩ := h3.two'
      rw [List.nil_append] at e2
      subst e2
      refine ⟨a, us, i, w, rfl, rfl, h1, by rw [h2.length]; exact o3.1, o3.2.1, o3.2.2, k _ _ fun Z' H' up => ⟨?_, rfl, rfl⟩⟩
      exact reps_up up (Reps.append (Reps.append (Reps.take _ h2) (Reps.one ry)) (Reps.drop _ h2))
  · cases e
end
section
variable {c : Vc} {X : Cx} {e : Expr} {es : List Expr} {name x : Str} {p apos cpos : Pos} {T id : String} {r : V → List V → Hp → VK → Prop} {ty : D → Bool} {m : D → List D → Option (D × D)} {fs : List CE} {i : Nat}
theorem se_mut (pa : PlainAttrs T) (slot : Slot T name id) (hty : typeOf (.builtin id) = pure (.type "method_descriptor")) (hm : MtR X id r) (hk : X.K = c.K) (ht : ∀ Z H d v G, ty d = true → c.R Z H d v G → tyV c.K T v H) (htd : ∀ d, ty d = true → d.isDead = false)
    (hnd : ∀ d ds p, m d ds = some p → d.isDead = false) (ok : OkM c r m) (ho : PE X (.Name x p) (tVar i)) (ha : PA X (e :: es) (tAs c fs)) (hbase : attributeBase (.Name x p) name X.env (eval (.Name x p) X.env) = eval (.Name x p) X.env := by rfl)
    (hpy : ((backTo cpos (starEach (e :: es) X.env)).all (!·.1) && (backToKw cpos (keywordEach [] X.env)).all (·.1.isSome) && decide ((e :: es).length + ([] : List Keyword).length + (if ([] : List Keyword).isEmpty then 0 else 1) < 30)) = true := by rfl)
    (hline : (apos.endLine == cpos.line) = true := by rfl) (he : starEach (e :: es) X.env = (false, eval e X.env) :: starEach es X.env := by rfl) (hpl : (backTo cpos (starEach es X.env)).any (·.1) = false := by rfl) :
    PE X (.Call (.Attribute (.Name x p) name apos) (e :: es) [] cpos) (tV c (cMut i ty m fs)) :=
  (pe_bm pa slot hty hm ho ha hbase hpy hline he hpl).imp fun σ H Q h => by
    have q := mut_run (T := fun v H => tyV c.K T v H) ht hnd htd ok h
    rw [← hk] at q
    exact q
theorem se_mut0 (pa : PlainAttrs T) (slot : Slot T name id) (hty : typeOf (.builtin id) = pure (.type "method_descriptor")) (hm : MtR X id r) (hk : X.K = c.K) (ht : ∀ Z H d v G, ty d = true → c.R Z H d v G → tyV c.K T v H) (htd : ∀ d, ty d = true → d.isDead = false)
    (hnd : ∀ d ds p, m d ds = some p → d.isDead = false) (ok : OkM c r m) (ho : PE X (.Name x p) (tVar i)) (hbase : attributeBase (.Name x p) name X.env (eval (.Name x p) X.env) = eval (.Name x p) X.env := by rfl)
    (hline : (apos.endLine == cpos.line) = true := by rfl) : PE X (.Call (.Attribute (.Name x p) name apos) [] [] cpos) (tV c (cMut i ty m [])) :=
  (pe_bm0 pa slot hty hm ho hbase hline).imp fun σ H Q h => by
    have q := mut_run (T := fun v H => tyV c.K T v H) ht hnd htd ok h
    rw [← hk] at q
    exact q
end
theorem mAppend_nd : ∀ d ds p, mAppend d ds = some p → d.isDead = false := fun d ds p h => by unfold mAppend at h; split at h <;> first | rfl | cases h
theorem mExtend_nd : ∀ d ds p, mExtend d ds = some p → d.isDead = false := fun d ds p h => by unfold mExtend at h; split at h <;> first | rfl | cases h
theorem mPop_nd : ∀ d ds p, mPop d ds = some p → d.isDead = false := fun d ds p h => by unfold mPop at h; split at h <;> first | rfl | cases h
theorem mReverse_nd : ∀ d ds p, mReverse d ds = some p → d.isDead = false := fun d ds p h => by unfold mReverse at h; split at h <;> first | rfl | cases h
theorem mInsert_nd : ∀ d ds p, mInsert d ds = some p → d.isDead = false := fun d ds p h => by unfold mInsert at h; split at h <;> first | rfl | cases h

/-! ### x[k] = e -/
/-- the stored value first, then the place -/
def sSet (i : Nat) (m : D → List D → Option (D × D)) (fe fk : CE) : CS := fun env => match env[i]? with
  | some d0 => if d0.isDead then .bad else (fe env).bindS fun d e => (fk e).bindS fun k e2 => match e2[i]? with
    | some o => match m o [k, d] with
      | some (_, o') => .nx (e2.set i o')
      | none => .bad
    | none => .bad
  | none => .bad
def mSetL : D → List D → Option (D × D)
  | .lst true xs, [.int k, y] => if ownL xs ∨ y.own then none else (ixN xs.length k).map fun j => (.non, .lst true (xs.set j y))
  | _, _ => none
def mSetD : D → List D → Option (D × D)
  | .dk true ks xs, [k, y] => if ownL xs ∨ y.own ∨ ¬ xs.length < sizeLine ∨ k.own then none else (kOf k).map fun k => (.non, .dk true (kPutK ks k) (kPutV ks xs k y))
  | .dt true ks xs, [.tup k, y] => if ownL xs ∨ y.own ∨ ¬ xs.length < sizeLine ∨ ownL k then none else (kOfL k).map fun k => (.non, .dt true (kPutK ks k) (kPutV ks xs k y))
  | _, _ => none
section
variable {c : Vc} {σ : L2.St} {H : Hp} {E : Ends}
theorem set_run {r : V → List V → Hp → VK → Prop} {m : D → List D → Option (D × D)} {i : Nat} {fe fk : CE} (hnd : ∀ d ds p, m d ds = some p → d.isDead = false) (ok : OkM c r m) (h : tS c (sSet i m fe fk) E σ H) :
    ∃ o, σ[i]? = some (some o) ∧ tV c fe σ H fun x H1 => tV c fk σ H1 fun y H2 => r o [y, x] H2 fun _ H3 => E.nx σ H3 := by
  obtain ⟨Z, env, F, a, h⟩ := h
  unfold sSet at h
  cases e0 : env[i]? with
  | none => rw [e0] at h; exact h.elim
  | some d0 =>
  cases nd0 : d0.isDead with
  | true => simp [e0, nd0] at h; exact h.elim
  | false =>
  simp only [e0, nd0, Bool.false_eq_true, if_false] at h
  obtain ⟨v0, A0, hv0, rv0, _⟩ := a.rep.get e0 nd0
  refine ⟨v0, hv0, tV.go a ?_⟩
  cases e : fe env with
  | bad => rw [e] at h; exact h
  | exc x e1 => rw [e] at h; exact postXS.at h a.pin
  | ok d e1 =>
    rw [e] at h
    simp only [RE.bindS] at h
    intro Z1 H1 v G F1 s r1 a1
    refine tV.go a1 ?_
    cases e' : fk e1 with
    | bad => rw [e'] at h; exact h
    | exc x e2 => rw [e'] at h; exact postX.later (postXS.at h a.pin) s
    | ok k e2 =>
      rw [e'] at h
      simp only at h
      intro Z2 H2 w G2 F2 s2 r2 a2
      cases ei : e2[i]? with
      | none => rw [ei] at h; exact h.elim
      | some o =>
        rw [ei] at h
        simp only at h
        cases em : m o [k, d] with
        | none => rw [em] at h; exact h.elim
        | some p =>
          obtain ⟨res, o'⟩ := p
          rw [em] at h
          have t := s.seq s2
          rw [← List.append_assoc] at t
          have t' := t.perm (List.Perm.append_right F2 (List.perm_append_comm (l₁ := G) (l₂ := G2)))
          have rs : c.Rs Z2 H2 [k, d] [w, v] (G2 ++ G) := ⟨w, [v], G2, G, rfl, r2, Reps.one (s2.rep s.wd r1), rfl⟩
          obtain ⟨v1, hv1, q⟩ := mut_at (Q := fun _ H3 => E.nx σ H3) ok t' rs a2 ei em (hnd _ _ _ em) fun Z' H' u G' F' s' ru a' => h Z' H' F' σ s'.drop a'.rep a'.pin
          rw [hv0] at hv1
          cases hv1
          exact q
theorem reps_set {Z : Addr → Prop} {H : Hp} {d : D} {v : V} (rd : c.R Z H d v []) : ∀ {ds : List D} {vs : List V} (j : Nat), c.Rs Z H ds vs [] → c.Rs Z H (ds.set j d) (vs.set j v) []
  | [], vs, j, h => by obtain ⟨rfl, _⟩ := h; exact ⟨by simp, rfl⟩
  | x :: ds, vs, j, h => by
    obtain ⟨w, r, F1, F2, rfl, h1, h2, e⟩ := h
    have e2 := List.append_eq_nil_iff.mp e.symm
    rw [e2.1] at h1
    rw [e2.2] at h2
    cases j with
    | zero => exact ⟨v, r, [], [], rfl, rd, h2, rfl⟩
    | succ j => exact ⟨w, _, [], [], rfl, h1, reps_set rd j h2, rfl⟩
def rSetLV : V → List V → Hp → VK → Prop := fun o vs H Q => ∃ i x, vs = [i, x] ∧ rSetL o i x H fun H1 => Q .non H1
theorem okM_setL : OkM c rSetLV mSetL := okM_plain fun d ds res d' e => by
  unfold mSetL at e
  split at e
  · split at e
    · cases e
    · rename_i ho
      simp only [not_or, Bool.not_eq_true] at ho
      obtain ⟨j, ej, e⟩ := Option.map_eq_some_iff.mp e
      cases e
      refine ⟨_, _, rfl, rfl, ho.1, by simp [ownL, D.own, ho.2], fun Z H a us vs Q h1 h2 h3 k => ?_⟩
      obtain ⟨v, w, F1, F2, rfl, ⟨rfl, rfl⟩, ry, e2⟩ := h3.two'
      rw [List.nil_append] at e2
      subst e2
      rw [← h2.length] at ej
      exact ⟨_, _, rfl, a, us, _, j, rfl, rfl, h1, ej, k _ _ fun Z' H' up => ⟨reps_up up (reps_set ry j h2), rfl, rfl⟩⟩
  · cases e
def rSetDV : V → List V → Hp → VK → Prop := fun o vs H Q => ∃ i x a H4, vs = [i, x] ∧ o = .ref a ∧ DPut H a i x H4 ∧ Q .non H4
theorem reps_put {κ : Type} [DecidableEq κ] {Z : Addr → Prop} {H : Hp} {d : D} {v : V} (rd : c.R Z H d v []) {ks : List κ} {k : κ} {ds : List D} {vs : List V} (h : c.Rs Z H ds vs []) : c.Rs Z H (kPutV ks ds k d) (kPutV ks vs k v) [] := by
  unfold kPutV
  cases kIx ks k with
  | none => exact Reps.append h (Reps.one rd)
  | some i => exact reps_set rd i h
theorem okM_setD : OkM c rSetDV mSetD := by
  intro Z H d ds v vs A G res d' Q e nd rd rs w h
  unfold mSetD at e
  split at e
  · split at e
    · cases e
    · rename_i ks xs k y ho
      simp only [not_or, Bool.not_eq_true, Decidable.not_not] at ho
      obtain ⟨o1, o2, o3, o4⟩ := ho
      obtain ⟨k', ek, e⟩ := Option.map_eq_some_iff.mp e
      cases e
      obtain ⟨a, us, G1, rfl, s1, ok, q1, rfl⟩ := rd
      obtain ⟨v1, v2, F1, F2, rfl, rk, ry, rfl⟩ := rs.two'
      have g1 := Reps.noown _ _ _ q1 o1
      have g2 := Rep.noown _ _ _ ry o2
      have g3 := Rep.noown _ _ _ rk o4
      subst g1 g2 g3
      have w' : Wd Z H [a] := by simpa using w
      refine ⟨_, _, a, _, rfl, rfl, .inl ⟨_, k', s1, kOf_rep ek rk, ?_, rfl⟩, ?_⟩
      · rw [List.length_zip, ok.len, Nat.min_self, q1.length]; exact o3
      · rw [putK_zip ok]
        have st := Step.wr (o := .dK ((kPutK ks k').zip (kPutV ks us k' v2))) w' trivial List.nodup_nil (fun _ m => m)
        exact h Z _ _ [] [a] (by simpa using st) ⟨rfl, rfl⟩ ⟨a, _, [], rfl, upd_same, kPut_ok ok, Reps.wrote w' (reps_put ry q1) (fun m => by cases m), rfl⟩
  · split at e
    · cases e
    · rename_i ks xs k y ho
      simp only [not_or, Bool.not_eq_true, Decidable.not_not] at ho
      obtain ⟨o1, o2, o3, o4⟩ := ho
      obtain ⟨k', ek, e⟩ := Option.map_eq_some_iff.mp e
      cases e
      obtain ⟨a, us, G1, rfl, s1, ok, q1, rfl⟩ := rd
      obtain ⟨v1, v2, F1, F2, rfl, ⟨b, ws, rfl, hb, rk⟩, ry, rfl⟩ := rs.two'
      have g1 := Reps.noown _ _ _ q1 o1
      have g2 := Rep.noown _ _ _ ry o2
      have g3 := Reps.noown _ _ _ rk o4
      subst g1 g2 g3
      have ew := kOfL_reps ek rk
      subst ew
      have w' : Wd Z H [a] := by simpa using w
      refine ⟨_, _, a, _, rfl, rfl, .inr ⟨_, k', b, s1, rfl, hb, ?_, rfl⟩, ?_⟩
      · rw [List.length_zip, ok.len, Nat.min_self, q1.length]; exact o3
      · rw [putK_zip ok]
        have st := Step.wr (o := .dT ((kPutK ks k').zip (kPutV ks us k' v2))) w' trivial List.nodup_nil (fun _ m => m)
        exact h Z _ _ [] [a] (by simpa using st) ⟨rfl, rfl⟩ ⟨a, _, [], rfl, upd_same, kPut_ok ok, Reps.wrote w' (reps_put ry q1) (fun m => by cases m), rfl⟩
  · cases e
end
theorem mSetL_nd : ∀ d ds p, mSetL d ds = some p → d.isDead = false := fun d ds p h => by unfold mSetL at h; split at h <;> first | rfl | cases h
theorem mSetD_nd : ∀ d ds p, mSetD d ds = some p → d.isDead = false := fun d ds p h => by unfold mSetD at h; split at h <;> first | rfl | cases h
section
variable {c : Vc} {X : Cx} {x : Str} {p pos pos' : Pos} {e k : Expr} {fe fk : CE} {i : Nat}
theorem ss_setD (hu : X.A.units + 1 < cLine) (ho : PE X (.Name x p) (tVar i)) (hk : PE X k (tV c fk)) (he : PE X e (tV c fe)) (hs : swapsWith e (some (.Subscript (.Name x p) k pos')) pos.line X.env = pure false := by rfl) :
    PS X (.Assign [.Subscript (.Name x p) k pos'] e pos) (tS c (sSet i mSetD fe fk)) := (ps_dput hu ho hk he hs).imp fun D σ H h => by
  obtain ⟨o, hv, q⟩ := set_run mSetD_nd okM_setD h
  refine tV.mono q fun v H1 q1 => ⟨o, hv, tV.mono q1 fun y H2 q2 => ?_⟩
  obtain ⟨y', x', a, H4, e1, rfl, hp, q3⟩ := q2
  cases e1
  exact ⟨a, H4, rfl, hp, q3⟩
theorem ss_setL (ho : PE X (.Name x p) (tVar i)) (hk : PE X k (tV c fk)) (he : PE X e (tV c fe)) (hs : swapsWithSole [.Subscript (.Name x p) k pos'] e pos.line X.env = pure false := by rfl) (hw : swappedStores [.Subscript (.Name x p) k pos'] e X.env = pure none := by rfl)
    (h1 : (assignEach [.Subscript (.Name x p) k pos'] X.env).map (·.2) = [assign (.Subscript (.Name x p) k pos') X.env] := by rfl)
    (ha : ∀ v, assign (.Subscript (.Name x p) k pos') X.env v = (do
      let ov ← holding [v] (eval (.Name x p) X.env)
      let iv ← holding [v, ov] (eval k X.env)
      standAt pos'; holding [v, ov, iv] (setItem ov iv v); release [v, ov, iv] []) := by intro _; rfl) :
    PS X (.Assign [.Subscript (.Name x p) k pos'] e pos) (tS c (sSet i mSetL fe fk)) := (ps_asg he (pg_sub ho hk set_list ha) hs hw h1).imp fun D σ H h => by
  obtain ⟨o, hv, q⟩ := set_run mSetL_nd okM_setL h
  refine tV.mono q fun v H1 q1 => ⟨o, hv, tV.mono q1 fun y H2 q2 => ?_⟩
  obtain ⟨y', x', e1, q3⟩ := q2
  cases e1
  exact q3
end
end VL

set_option Elab.async false
set_option maxRecDepth 100000
/-! VI: defs and their calls. -/
namespace VL
open PySem L2 PySem.Spec PyProof.Rows

inductive FR where
  | ok (d : D) (outs : List D) | exc (x : Xc) (outs : List D) | bad
abbrev Fn := List D → FR
/-- what a def promises: its value, what the handed-back parameters (at ios) hold -/
def vsAt (ios : List Nat) (vs : List V) : List V := ios.map fun i => vs.getD i .non
def spV (K : PySem.W.Frag) (mg : Str → Option Value) (np : Nat) (ios : List Nat) (f : Fn) : Sp := fun vs H Q E => ∃ Z ds G, Reps K mg Z H ds vs G ∧ Wd Z H G ∧ ds.length = np ∧ match f ds with
  | .ok d outs => ∀ Z' H' v A B, Step Z Z' H H' G (A ++ B) → Rep K mg Z' H' d v A → Reps K mg Z' H' outs (vsAt ios vs) B → Q v H'
  | .exc x outs => ∀ Z' H' B cls dd, Step Z Z' H H' G B → Reps K mg Z' H' outs (vsAt ios vs) B → RepX K mg Z' H' x cls dd → E cls dd H'
  | .bad => False
theorem spV_len {K : PySem.W.Frag} {mg : Str → Option Value} {np : Nat} {ios : List Nat} {f : Fn} {ps : List Str} (hp : ps.length = np) : ∀ vs H Q E, spV K mg np ios f vs H Q E → vs.length = ps.length := fun vs H Q E ⟨Z, ds, G, r, _, hl, _⟩ => by rw [r.length, hl, hp]

/-! ### a def by its body -/
def outsOf (ios : List Nat) (e : List D) : List D := ios.map fun i => e.getD i .dead
def runF (np nl : Nat) (ios : List Nat) (b : CS) : Fn := fun ds => if ds.length = np then match b (ds ++ List.replicate nl .dead) with
    | .rt d e => if (outsOf ios e).any D.isDead then .bad else .ok d (outsOf ios e)
    | .nx e => if (outsOf ios e).any D.isDead then .bad else .ok .non (outsOf ios e)
    | .exc x e => if (outsOf ios e).any D.isDead then .bad else .exc x (outsOf ios e)
    | _ => .bad
  else .bad
section
variable {K : PySem.W.Frag} {mg : Str → Option Value} {Z : Addr → Prop} {H : Hp}
theorem repS_start : ∀ {ds : List D} {vs : List V} {G : List Addr} (n : Nat), Reps K mg Z H ds vs G → RepS K mg Z H (ds ++ List.replicate n .dead) (vs.map some ++ List.replicate n none) G
  | [], vs, G, n, h => by
    obtain ⟨rfl, rfl⟩ := h
    induction n with
    | zero => exact ⟨rfl, rfl⟩
    | succ n ih => exact ⟨none, _, [], [], rfl, .inl ⟨rfl, rfl⟩, ih, rfl⟩
  | d :: ds, vs, G, n, h => by
    obtain ⟨v, r, F1, F2, rfl, h1, h2, rfl⟩ := h
    exact ⟨some v, _, F1, F2, rfl, .inr ⟨v, rfl, h1⟩, repS_start n h2, rfl⟩
theorem repS_outs {pv : Nat → V} : ∀ (ios : List Nat) {e : List D} {σ : L2.St} {F : List Addr}, RepS K mg Z H e σ F → F.Nodup → ios.Nodup → (∀ i ∈ ios, σ[i]? = some (some (pv i))) → (∀ i ∈ ios, (e.getD i .dead).isDead = false) →
    ∃ B, Reps K mg Z H (outsOf ios e) (ios.map pv) B ∧ B.Nodup ∧ ∀ a ∈ B, a ∈ F
  | [], e, σ, F, h, nd, _, _, _ => ⟨[], ⟨rfl, rfl⟩, List.nodup_nil, fun a m => by cases m⟩
  | i :: ios, e, σ, F, h, nd, ni, hp, hd => by
    have hi := hd i List.mem_cons_self
    cases ei : e[i]? with
    | none => rw [List.getD_eq_getElem?_getD, ei] at hi; simp [D.isDead] at hi
    | some d =>
      rw [List.getD_eq_getElem?_getD, ei] at hi
      obtain ⟨v, A, F2, hv, rv, r2, p⟩ := h.take ei hi
      rw [hp i List.mem_cons_self] at hv
      cases hv
      have nd2 := p.nodup_iff.mp nd
      have ne : ∀ j ∈ ios, i ≠ j := fun j m => notin_ne (List.nodup_cons.mp ni).1 m
      have eg : ∀ j ∈ ios, (e.set i .dead).getD j .dead = e.getD j .dead := fun j m => by
        rw [List.getD_eq_getElem?_getD, List.getD_eq_getElem?_getD, List.getElem?_set_ne (ne j m)]
      obtain ⟨B, rB, nB, iB⟩ := repS_outs ios r2 (List.nodup_append.mp nd2).2.1 (List.nodup_cons.mp ni).2 (fun j m => hp j (List.mem_cons_of_mem _ m)) (fun j m => by rw [eg j m]; exact hd j (List.mem_cons_of_mem _ m))
      have eo : outsOf ios (e.set i .dead) = outsOf ios e := List.map_congr_left eg
      rw [eo] at rB
      refine ⟨A ++ B, ⟨pv i, _, A, B, rfl, ?_, rB, rfl⟩, List.nodup_append.mpr ⟨(List.nodup_append.mp nd2).1, nB, fun a m b n e => ?_⟩, fun a m => ?_⟩
      · show Rep K mg Z H (e.getD i .dead) (pv i) A
        rw [List.getD_eq_getElem?_getD, ei]; exact rv
      · exact (List.nodup_append.mp nd2).2.2 a m b (iB b n) e
      · rcases List.mem_append.mp m with m | m
        · exact p.mem_iff.mpr (List.mem_append_left _ m)
        · exact p.mem_iff.mpr (List.mem_append_right _ (iB a m))
end
section
variable {P : Program} {w : World} {K : PySem.W.Frag} {mg : Str → Option Value} {base : Heap}
/-- the context of a def's body -/
def cOf (K : PySem.W.Frag) (mg : Str → Option Value) (ios : List Nat) (vs : List V) (E : XK) : Vc := ⟨K, mg, fun cls d _ H => E cls d H, ios, fun i => vs.getD i .non⟩
theorem fn_ok {x qual : Str} {st : Stmt} {f : Addr} {fd : FuncData} {N ps : List Str} {k np nl : Nat} {ios : List Nat} {b : CS} (F : Fun K x qual st f fd) (S : FnScope N ps (defScope st)) (hp : ps.length = np) (hn : N.length = np + nl) (hi : ∀ i ∈ ios, i < np) (nd : ios.Nodup)
    (hb : ∀ (X : Cx) (c : Vc), X.prog = P → X.w = w → X.K = K → X.mg = mg → X.base = base → X.N = N → X.env.scope = defScope st → X.calm = true → Room k X.A → (∀ y, X.fn y = true) → X.stack = X.env :: X.outer → X.env.frame = some X.env.locals → PassesOwn (model X.prog X.w) X.A X.env X.xe →
      c.K = K → c.mg = mg → c.ios = ios → Takes X c.W → PSs X (defBody st) (tS c b)) :
    FnOk P w K mg base (L2.CX P w) (k + 1) f fd ps (spV K mg np ios (runF np nl ios b)) := by
  refine F.okX S (spV_len hp) (fun cdv A outer s H vs Q E hr hsp => ?_)
  obtain ⟨Z, ds, G, r, wd, hl, h⟩ := hsp
  refine ⟨tS (cOf K mg ios vs E) b, ?_, ?_⟩
  · refine hb (cxOf (L2.CX P w) P w K mg base N qual (defScope st) f cdv A outer s H E) (cOf K mg ios vs E) rfl rfl rfl rfl rfl rfl rfl rfl hr (fun _ => rfl) rfl rfl (passes_of (K := fun e s' => L2.CX P w outer H s E e s') rfl) rfl rfl rfl ?_
    exact takes_of rfl rfl rfl rfl
  · have hvl : vs.length = np := by rw [r.length, hl]
    have es : L2.start N vs = vs.map some ++ List.replicate nl none := by
      unfold L2.start
      rw [hn, hvl, Nat.add_sub_cancel_left]
    rw [es]
    have pin : (cOf K mg ios vs E).Pin (vs.map some ++ List.replicate nl none) := fun i m => by
      have h1 : i < vs.length := by rw [hvl]; exact hi i m
      rw [List.getElem?_append_left (by simpa using h1), List.getElem?_map, List.getElem?_eq_getElem h1]
      show some (some vs[i]) = some (some (vs.getD i .non))
      rw [List.getD_eq_getElem?_getD, List.getElem?_eq_getElem h1]
      rfl
    refine ⟨Z, ds ++ List.replicate nl D.dead, G, ⟨repS_start nl r, wd, pin⟩, ?_⟩
    unfold runF at h
    rw [if_pos hl] at h
    have outs : ∀ {e : List D} {σ' : L2.St} {Z' : Addr → Prop} {H' : Hp} {F' : List Addr}, (outsOf ios e).any D.isDead = false → RepS K mg Z' H' e σ' F' → F'.Nodup → (cOf K mg ios vs E).Pin σ' → ∃ B, Reps K mg Z' H' (outsOf ios e) (vsAt ios vs) B ∧ B.Nodup ∧ ∀ a ∈ B, a ∈ F' := fun hd re n p => by
      refine repS_outs (pv := fun i => vs.getD i .non) ios re n nd p fun i m => ?_
      have q := List.any_eq_false.mp hd _ (List.mem_map.mpr ⟨i, m, rfl⟩)
      simpa using q
    cases e : b (ds ++ List.replicate nl .dead) with
    | nx e1 =>
      rw [e] at h
      simp only at h
      cases hd : (outsOf ios e1).any D.isDead with
      | true => rw [hd] at h; exact h.elim
      | false =>
        rw [hd] at h
        intro Z' H' F' σ' s re p
        obtain ⟨B, rB, nB, iB⟩ := outs hd re s.wd.nd p
        exact h Z' H' .non [] B (s.sub nB iB) ⟨rfl, rfl⟩ rB
    | rt d e1 =>
      rw [e] at h
      simp only at h
      cases hd : (outsOf ios e1).any D.isDead with
      | true => rw [hd] at h; exact h.elim
      | false =>
        rw [hd] at h
        intro Z' H' v A F' σ' s rv re p
        obtain ⟨B, rB, nB, iB⟩ := outs hd re s.wd.right.nd p
        refine h Z' H' v A B (s.sub (List.nodup_append.mpr ⟨s.wd.left.nd, nB, fun a m b n e => by subst e; exact s.wd.dis a m (iB a n)⟩) fun a m => ?_) rv rB
        rcases List.mem_append.mp m with m | m
        · exact List.mem_append_left _ m
        · exact List.mem_append_right _ (iB a m)
    | exc x e1 =>
      rw [e] at h
      simp only at h
      cases hd : (outsOf ios e1).any D.isDead with
      | true => rw [hd] at h; exact h.elim
      | false =>
        rw [hd] at h
        intro Z' H' F' σ' cls dd s re p rx
        obtain ⟨B, rB, nB, iB⟩ := outs hd re s.wd.nd p
        exact h Z' H' B cls dd (s.sub nB iB) rB rx
    | bk e1 => rw [e] at h; exact h.elim
    | ct e1 => rw [e] at h; exact h.elim
    | bad => rw [e] at h; exact h.elim
end

/-! ### a call -/
/-- an argument: a value, or a slot whose owner is handed in -/
abbrev Ar := Sum CE Nat
def Ar.ev : Ar → CE
  | .inl f => f
  | .inr i => cTake i
def evR (as : List Ar) : List D → RA := evA (as.map Ar.ev)
def Ar.rd (c : Vc) : Ar → TE
  | .inl f => tV c f
  | .inr i => tVar i
def tRs (c : Vc) : List Ar → TA
  | [] => tNil
  | a :: as => tCons (a.rd c) (tRs c as)
def IoOk (σ : L2.St) : List Ar → List V → Prop
  | [], [] => True
  | .inl _ :: as, _ :: vs => IoOk σ as vs
  | .inr i :: as, v :: vs => σ[i]? = some (some v) ∧ IoOk σ as vs
  | _, _ => False
/-- what is handed back goes to its slot -/
def putB : List Nat → List Ar → List D → List D → List D
  | i :: is, as, o :: os, e => match as[i]? with
    | some (.inr j) => putB is as os (e.set j o)
    | _ => putB is as os e
  | _, _, _, e => e
def cCall (ios : List Nat) (f : Fn) (as : List Ar) : CE := fun env => (evR as env).bind fun ds e => match f ds with
  | .ok d outs => .ok d (putB ios as outs e)
  | .exc x outs => .exc x (putB ios as outs e)
  | .bad => .bad
section
variable {c : Vc} {σ : L2.St}
theorem tRs.go : ∀ {as : List Ar} {Q : List V → Hp → Prop} {Z : Addr → Prop} {H : Hp} {env : List D} {F : List Addr}, c.At Z H env σ F →
    (match evR as env with
      | .ok ds e => ∀ Z' H' vs G F', Step Z Z' H H' F (G ++ F') → c.Rs Z' H' ds vs G → c.At Z' H' e σ F' → IoOk σ as vs → Q vs H'
      | .exc x e => postX c Z H F σ x e
      | .bad => False) → tRs c as σ H Q
  | [], Q, Z, H, env, F, a, h => h Z H [] [] F (Step.refl a.wd) Reps.nil a trivial
  | ar :: as, Q, Z, H, env, F, a, h => by
    have next : ∀ {d : D} {e1 : List D}, ar.ev env = .ok d e1 → ∀ Z1 H1 v G F1, Step Z Z1 H H1 F (G ++ F1) → c.R Z1 H1 d v G → c.At Z1 H1 e1 σ F1 → (match ar with | .inl _ => True | .inr i => σ[i]? = some (some v)) → tRs c as σ H1 fun vs H2 => Q (v :: vs) H2 := fun {d e1} e Z1 H1 v G F1 s r a1 hio => by
      refine tRs.go a1 ?_
      unfold evR evA at h
      rw [List.map_cons] at h
      simp only [e, RE.bindA] at h
      unfold evR
      cases e2 : evA (as.map Ar.ev) e1 with
      | bad => rw [e2] at h; exact h
      | exc x e3 => rw [e2] at h; exact postX.later h s
      | ok ds e3 =>
        rw [e2] at h
        intro Z2 H2 vs G2 F2 s2 r2 a2 hio2
        have t := s.seq s2
        rw [← List.append_assoc] at t
        refine h Z2 H2 (v :: vs) (G ++ G2) F2 t ⟨v, vs, G, G2, rfl, s2.rep s.wd r, r2, rfl⟩ a2 ?_
        cases ar with
        | inl f => exact hio2
        | inr i => exact ⟨hio, hio2⟩
    cases ar with
    | inl f =>
      refine tV.go a ?_
      cases e : f env with
      | bad => unfold evR evA at h; rw [List.map_cons] at h; simp only [Ar.ev, e, RE.bindA] at h
      | exc x e1 => unfold evR evA at h; rw [List.map_cons] at h; simp only [Ar.ev, e, RE.bindA] at h; exact h
      | ok d e1 => exact fun Z1 H1 v G F1 s r a1 => next e Z1 H1 v G F1 s r a1 trivial
    | inr i =>
      cases e : cTake i env with
      | bad => unfold evR evA at h; rw [List.map_cons] at h; simp only [Ar.ev, e, RE.bindA] at h
      | exc x e1 =>
        unfold cTake at e
        split at e
        · split at e <;> cases e
        · cases e
      | ok d e1 =>
        have q : postE c Z H F σ (fun v H1 => v = v) (cTake i env) := by rw [e]; exact fun _ _ _ _ _ _ _ _ => rfl
        obtain ⟨v, d', G, F', e1', e2', _, s, r, a', _⟩ := take_at a q
        have ed : d = d' ∧ e1 = env.set i .dead := by
          unfold cTake at e
          rw [e2'] at e
          simp only at e
          split at e
          · cases e
          · cases e; exact ⟨rfl, rfl⟩
        obtain ⟨rfl, rfl⟩ := ed
        exact ⟨v, e1', next e Z H v G F' s r a' e1'⟩
theorem io_get : ∀ {as : List Ar} {vs : List V} {k j : Nat}, IoOk σ as vs → as[k]? = some (.inr j) → σ[j]? = some (some (vs.getD k .non))
  | [], _, _, _, _, e => by simp at e
  | .inl f :: as, [], _, _, h, _ => h.elim
  | .inr i :: as, [], _, _, h, _ => h.elim
  | .inl f :: as, v :: vs, 0, j, h, e => by simp at e
  | .inl f :: as, v :: vs, k + 1, j, h, e => by
    have q := io_get (k := k) (show IoOk σ as vs from h) (by simpa using e)
    simpa using q
  | .inr i :: as, v :: vs, 0, j, h, e => by
    simp at e
    subst e
    exact h.1
  | .inr i :: as, v :: vs, k + 1, j, h, e => by
    have q := io_get (k := k) (show IoOk σ as vs from h.2) (by simpa using e)
    simpa using q
theorem putB_run {as : List Ar} {vs : List V} (hio : IoOk σ as vs) : ∀ (ios : List Nat) (outs : List D) {Z : Addr → Prop} {H : Hp} {e : List D} {B F : List Addr}, c.Rs Z H outs (vsAt ios vs) B → c.E Z H e σ F → (B ++ F).Nodup →
    ∃ F', c.E Z H (putB ios as outs e) σ F' ∧ F'.Nodup ∧ ∀ a ∈ F', a ∈ B ++ F
  | [], outs, Z, H, e, B, F, r, re, nd => by
    refine ⟨F, ?_, (List.nodup_append.mp nd).2.1, fun a m => List.mem_append_right _ m⟩
    cases outs <;> exact re
  | i :: ios, [], Z, H, e, B, F, r, re, nd => by
    obtain ⟨e1, _⟩ := r
    cases e1
  | i :: ios, o :: os, Z, H, e, B, F, r, re, nd => by
    obtain ⟨v, q, B1, B2, e1, r1, r2, rfl⟩ := r
    cases e1
    unfold putB
    have n2 : (B2 ++ F).Nodup := nd.sublist (List.Sublist.append_right (List.sublist_append_right _ _) _)
    have w : ∀ {F1 : List Addr} {e' : List D}, c.E Z H e' σ F1 → F1.Nodup → (∀ a ∈ F1, a ∈ B1 ++ F) → ∃ F', c.E Z H (putB ios as os e') σ F' ∧ F'.Nodup ∧ ∀ a ∈ F', a ∈ B1 ++ B2 ++ F := fun {F1 e'} re1 n1 i1 => by
      have nd' : (B2 ++ F1).Nodup := by
        rw [List.append_assoc] at nd
        obtain ⟨a1, a2, a3⟩ := List.nodup_append.mp nd
        obtain ⟨b1, b2, b3⟩ := List.nodup_append.mp a2
        refine List.nodup_append.mpr ⟨b1, n1, fun a m b n e => ?_⟩
        subst e
        rcases List.mem_append.mp (i1 a n) with z | z
        · exact a3 a z a (List.mem_append_left _ m) rfl
        · exact b3 a m a z rfl
      obtain ⟨F', x1, x2, x3⟩ := putB_run hio ios os r2 re1 nd'
      refine ⟨F', x1, x2, fun a m => ?_⟩
      rcases List.mem_append.mp (x3 a m) with m | m
      · exact List.mem_append_left _ (List.mem_append_right _ m)
      · rcases List.mem_append.mp (i1 a m) with m | m
        · exact List.mem_append_left _ (List.mem_append_left _ m)
        · exact List.mem_append_right _ m
    split
    · rename_i j ej
      have hv := io_get hio ej
      have n1 : (B1 ++ F).Nodup := nd.sublist (List.Sublist.append_right (List.sublist_append_left _ _) _)
      obtain ⟨F1, re1, nn, ii⟩ := RepS.put (i := j) re r1 n1 hv
      exact w re1 nn ii
    · exact w re (List.nodup_append.mp nd).2.1 (fun a m => List.mem_append_right _ m)
theorem call_run {np : Nat} {ios : List Nat} {f : Fn} {as : List Ar} {H : Hp} {Q : VK} (hn : as.length = np) (h : tV c (cCall ios f as) σ H Q) : tRs c as σ H fun vs H1 => spV c.K c.mg np ios f vs H1 Q (WE c.W σ) := by
  obtain ⟨Z, env, F, a, h⟩ := h
  refine tRs.go a ?_
  unfold cCall at h
  cases e : evR as env with
  | bad => rw [e] at h; exact h
  | exc x e1 => rw [e] at h; exact h
  | ok ds e1 =>
    rw [e] at h
    simp only [RA.bind] at h
    intro Z1 H1 vs G F1 s rs a1 hio
    have hl : ds.length = np := by
      have len : ∀ {fs : List CE} {en : List D} {ds : List D} {e1 : List D}, evA fs en = .ok ds e1 → ds.length = fs.length := by
        intro fs
        induction fs with
        | nil => intro en ds e1 q; unfold evA at q; cases q; rfl
        | cons f fs ih =>
          intro en ds e1 q
          unfold evA at q
          cases q1 : f en with
          | bad => rw [q1] at q; cases q
          | exc => rw [q1] at q; cases q
          | ok d e2 =>
            rw [q1] at q
            simp only [RE.bindA] at q
            cases q2 : evA fs e2 with
            | bad => rw [q2] at q; cases q
            | exc => rw [q2] at q; cases q
            | ok ds' e3 =>
              rw [q2] at q
              simp only [RA.bindA] at q
              cases q
              simp [ih q2]
      rw [len e, List.length_map]
      exact hn
    refine ⟨Z1, ds, G, rs, s.wd.left, hl, ?_⟩
    cases ef : f ds with
    | bad => rw [ef] at h; exact h
    | ok d outs =>
      rw [ef] at h
      intro Z2 H2 v A B s2 rv ro
      have t := s2.beside2 s.wd
      have re := s2.envr s.wd a1.rep
      have tt : Step Z Z2 H H2 F (A ++ (B ++ F1)) := by
        rw [← List.append_assoc]
        exact s.trans t
      obtain ⟨F', r', n', i'⟩ := putB_run hio ios outs ro re tt.wd.right.nd
      refine h Z2 H2 v A F' (tt.sub (List.nodup_append.mpr ⟨tt.wd.left.nd, n', fun a m b n e => by subst e; exact tt.wd.dis a m (i' a n)⟩) fun a m => ?_) rv r'
      rcases List.mem_append.mp m with m | m
      · exact List.mem_append_left _ m
      · exact List.mem_append_right _ (i' a m)
    | exc x outs =>
      rw [ef] at h
      intro Z2 H2 B cls dd s2 ro rx
      have t := s2.beside2 s.wd
      have re := s2.envr s.wd a1.rep
      obtain ⟨F', r', n', i'⟩ := putB_run hio ios outs ro re t.wd.nd
      exact h Z2 H2 F' cls dd ((s.trans t).sub n' i') r' rx
end
section
variable {c : Vc} {X : Cx} {k np : Nat} {f : Addr} {fd : FuncData} {ps : List Str} {ios : List Nat} {fn : Fn} {x : Str} {p pos : Pos} {e : Expr} {es : List Expr} {as : List Ar}
theorem se_call (G : FnOk X.prog X.w X.K X.mg X.base (L2.CX X.prog X.w) k f fd ps (spV X.K X.mg np ios fn)) (hr : Room k X.A) (hK : X.K = c.K) (hM : X.mg = c.mg) (hg : Gl X x) (hm : X.mg x = some (.ref f)) (hk : PySem.W.keepIn X.K (.ref f) = true) (hb : Binds X.K fd ps []) (tk : Takes X c.W)
    (hn : as.length = np) (ha : PA X (e :: es) (tRs c as)) (hdb : (x == ("__debug__" : Str)) = false := by decide) (he : starEach (e :: es) X.env = (false, eval e X.env) :: starEach es X.env := by rfl) (hpl : (backTo pos (starEach es X.env)).any (·.1) = false := by rfl) :
    PE X (.Call (.Name x p) (e :: es) [] pos) (tV c (cCall ios fn as)) :=
  (pe_callS G hr hg hm hk hb (fun σ => passAt tk σ) ha hdb he hpl).imp fun σ H Q h => by
    have q := call_run hn h
    rw [← hK, ← hM] at q
    exact q
end
end VL

set_option Elab.async false
set_option maxRecDepth 100000
/-! VJ: loops. -/
namespace VL
open PySem L2 PySem.Spec PyProof.Rows

/-! ### what a loop walks -/
structure Feeds (c : Vc) (J : It) (items : List D) (S : (Addr → Prop) → Hp → Prop) : Prop where
  keep : ∀ {Z Z' H H' F F'}, S Z H → Wd Z H F → Step Z Z' H H' F F' → S Z' H'
  go : ∀ {i Z H}, S Z H → i < items.length → J.go i H
  yld : ∀ {i Z H F x H'}, i < items.length → S Z H → Wd Z H F → J.yld i H x H' → ∃ d, items[i]? = some d ∧ Kp [] H H' ∧ Step Z Z H H' F F ∧ c.R Z H' d x []
  stop : ∀ {i Z H}, S Z H → items.length ≤ i → J.stop i H
def tIt (c : Vc) (g : List D → RA) : TI := fun σ H R => ∃ Z env F, c.At Z H env σ F ∧ match g env with
  | .ok items e => ∀ Z' H' F' J S, Step Z Z' H H' F F' → c.At Z' H' e σ F' → Feeds c J items S → S Z' H' → R J H'
  | .exc x e => postX c Z H F σ x e
  | .bad => False
theorem _root_.L2.PI.imp {X : Cx} {tg e : Expr} {t t' : TI} (h : PI X tg e t) (i : ∀ σ H Q, t' σ H Q → t σ H Q) : PI X tg e t' := ⟨fun pins s σ H Q I q => h.run pins s σ H Q I (i σ H Q q)⟩
def chars (z : Str) : List D := z.cps.toList.map fun q => .str ⟨#[q]⟩
def itemsOf : D → Option (List D)
  | .lst _ xs => some (frzL xs)
  | .tup xs => some (frzL xs)
  | .ktp xs => some (frzL xs)
  | .str z => some (chars z)
  | _ => none
/-- the items of a value -/
def iVal (f : CE) : List D → RA := fun env => match f env with
  | .ok d e => match itemsOf d with
    | some xs => .ok xs e
    | none => .bad
  | .exc x e => .exc x e
  | .bad => .bad
def iOf (g : List D → Option (List D)) (fs : List CE) : List D → RA := fun env => match evA fs env with
  | .ok ds e => match g ds with
    | some xs => .ok xs e
    | none => .bad
  | .exc x e => .exc x e
  | .bad => .bad
def gRange1 : List D → Option (List D)
  | [.int n] => if -(2 ^ 62) ≤ n ∧ n < 2 ^ 62 then some ((List.range n.toNat).map fun (i : Nat) => .int i) else none
  | _ => none
def gRange2 : List D → Option (List D)
  | [.int a, .int b] => if -(2 ^ 62) ≤ a ∧ a < 2 ^ 62 ∧ -(2 ^ 62) ≤ b ∧ b < 2 ^ 62 then some ((List.range (b - a).toNat).map fun (i : Nat) => .int (a + i)) else none
  | _ => none
def numb : Nat → List D → List D
  | _, [] => []
  | n, d :: ds => .tup [.int n, d] :: numb (n + 1) ds
def gEnum : List D → Option (List D)
  | [.lst _ xs] => some (numb 0 (frzL xs))
  | _ => none
def pair2 : List D → List D → List D
  | x :: xs, y :: ys => .tup [x, y] :: pair2 xs ys
  | _, _ => []
def gZip : List D → Option (List D)
  | [.lst _ xs, .lst _ ys] => some (pair2 (frzL xs) (frzL ys))
  | [.tup xs, .tup ys] => some (pair2 (frzL xs) (frzL ys))
  | _ => none
section
variable {c : Vc}
theorem rep0 {Z Z' : Addr → Prop} {H H' : Hp} {F F' : List Addr} {d : D} {v : V} (r : c.R Z H d v []) (w : Wd Z H F) (s : Step Z Z' H H' F F') : c.R Z' H' d v [] := s.rep0 w r
theorem sq_inj {K : PySem.W.Frag} {H : Hp} {a : Addr} {xs ys : List V} (h : ∀ zs, SqL K H a zs → zs[0]? = zs[0]?) (h1 : SqL K H a xs) : True := trivial
/-- a frozen list feeds its items -/
theorem feeds_lst {a : Addr} {xs : List D} : Feeds c (Itl c.K a) xs (fun Z H => c.R Z H (.lst false xs) (.ref a) []) where
  keep := fun r w s => rep0 r w s
  go := fun {i Z H} r hi => by
    obtain ⟨b, vs, e, hq, _, rs, _⟩ := r
    cases e
    obtain ⟨v, F1, e1, _⟩ := Reps.getS rs (List.getElem?_eq_getElem hi)
    exact ⟨vs, v, hq, e1⟩
  yld := fun {i Z H F x H'} _ r w y => by
    obtain ⟨rfl, y⟩ := y
    obtain ⟨b, vs, e, hq, _, rs, _⟩ := r
    cases e
    have hx := y vs hq
    obtain ⟨hi, _⟩ := List.getElem?_eq_some_iff.mp hx
    rw [rs.length] at hi
    obtain ⟨v, F1, e1, r1, s1⟩ := Reps.getS rs (List.getElem?_eq_getElem hi)
    rw [hx] at e1
    cases e1
    rw [List.sublist_nil.mp s1] at r1
    exact ⟨_, List.getElem?_eq_getElem hi, fun _ _ e _ => e, Step.refl w, r1⟩
  stop := fun {i Z H} r hi => by
    obtain ⟨b, vs, e, hq, _, rs, _⟩ := r
    cases e
    exact ⟨vs, hq, by rw [rs.length]; exact hi⟩
theorem feeds_tup {a : Addr} {xs : List D} : Feeds c (Itt c.K a) xs (fun Z H => c.R Z H (.tup xs) (.ref a) []) where
  keep := fun r w s => rep0 r w s
  go := fun {i Z H} r hi => by
    obtain ⟨b, vs, e, hq, rs⟩ := r
    cases e
    obtain ⟨v, F1, e1, _⟩ := Reps.getS rs (List.getElem?_eq_getElem hi)
    exact ⟨vs, v, SqT.of hq, e1⟩
  yld := fun {i Z H F x H'} _ r w y => by
    obtain ⟨rfl, y⟩ := y
    obtain ⟨b, vs, e, hq, rs⟩ := r
    cases e
    have hx := y vs (SqT.of hq)
    obtain ⟨hi, _⟩ := List.getElem?_eq_some_iff.mp hx
    rw [rs.length] at hi
    obtain ⟨v, F1, e1, r1, s1⟩ := Reps.getS rs (List.getElem?_eq_getElem hi)
    rw [hx] at e1
    cases e1
    rw [List.sublist_nil.mp s1] at r1
    exact ⟨_, List.getElem?_eq_getElem hi, fun _ _ e _ => e, Step.refl w, r1⟩
  stop := fun {i Z H} r hi => by
    obtain ⟨b, vs, e, hq, rs⟩ := r
    cases e
    exact ⟨vs, SqT.of hq, by rw [rs.length]; exact hi⟩
theorem feeds_ktp {a : Addr} {xs : List D} : Feeds c (Itt c.K a) xs (fun Z H => c.R Z H (.ktp xs) (.ref a) []) where
  keep := fun r w s => rep0 r w s
  go := fun {i Z H} r hi => by
    obtain ⟨b, vs, e, hq, rs, _⟩ := r
    cases e
    obtain ⟨v, F1, e1, _⟩ := Reps.getS rs (List.getElem?_eq_getElem hi)
    exact ⟨vs, v, KT.sq hq, e1⟩
  yld := fun {i Z H F x H'} _ r w y => by
    obtain ⟨rfl, y⟩ := y
    obtain ⟨b, vs, e, hq, rs, _⟩ := r
    cases e
    have hx := y vs (KT.sq hq)
    obtain ⟨hi, _⟩ := List.getElem?_eq_some_iff.mp hx
    rw [rs.length] at hi
    obtain ⟨v, F1, e1, r1, s1⟩ := Reps.getS rs (List.getElem?_eq_getElem hi)
    rw [hx] at e1
    cases e1
    rw [List.sublist_nil.mp s1] at r1
    exact ⟨_, List.getElem?_eq_getElem hi, fun _ _ e _ => e, Step.refl w, r1⟩
  stop := fun {i Z H} r hi => by
    obtain ⟨b, vs, e, hq, rs, _⟩ := r
    cases e
    exact ⟨vs, KT.sq hq, by rw [rs.length]; exact hi⟩
theorem feeds_str {z : Str} : Feeds c (Its z) (chars z) (fun _ _ => True) where
  keep := fun _ _ _ => trivial
  go := fun {i Z H} _ hi => by
    show i < z.cps.size
    unfold chars at hi
    simpa using hi
  yld := fun {i Z H F x H'} _ _ w y => by
    obtain ⟨rfl, q, e1, rfl⟩ := y
    refine ⟨.str ⟨#[q]⟩, ?_, fun _ _ e _ => e, Step.refl w, rfl, rfl⟩
    unfold chars
    rw [List.getElem?_map, Array.getElem?_toList, e1]
    rfl
  stop := fun {i Z H} _ hi => by
    show z.cps.size ≤ i
    unfold chars at hi
    simpa using hi
theorem feeds_range {a : Int} {n : Nat} : Feeds c (Itr a n) ((List.range n).map fun (i : Nat) => .int (a + i)) (fun _ _ => True) where
  keep := fun _ _ _ => trivial
  go := fun {i Z H} _ hi => by
    show i < n
    simpa using hi
  yld := fun {i Z H F x H'} hi _ w y => by
    obtain ⟨rfl, rfl⟩ := y
    have hi' : i < n := by simpa using hi
    refine ⟨.int (a + i), ?_, fun _ _ e _ => e, Step.refl w, rfl, rfl⟩
    rw [List.getElem?_map, List.getElem?_range hi']
    rfl
  stop := fun {i Z H} _ hi => by
    show n ≤ i
    simpa using hi
theorem numb_get : ∀ (n : Nat) (xs : List D) (i : Nat) (d : D), xs[i]? = some d → (numb n xs)[i]? = some (.tup [.int ((n + i : Nat) : Int), d])
  | n, [], i, d, e => by simp at e
  | n, x :: xs, 0, d, e => by
    simp at e
    subst e
    rfl
  | n, x :: xs, i + 1, d, e => by
    have q := numb_get (n + 1) xs i d (by simpa using e)
    unfold numb
    rw [List.getElem?_cons_succ, q]
    congr 4
    congr 1
    omega
theorem numb_len : ∀ (n : Nat) (xs : List D), (numb n xs).length = xs.length
  | n, [] => rfl
  | n, x :: xs => by unfold numb; simp [numb_len (n + 1) xs]
theorem feeds_enum {a : Addr} {xs : List D} : Feeds c (Ite c.K a) (numb 0 xs) (fun Z H => c.R Z H (.lst false xs) (.ref a) []) where
  keep := fun r w s => rep0 r w s
  go := fun {i Z H} r hi => by
    rw [numb_len] at hi
    obtain ⟨b, vs, e, hq, _, rs, _⟩ := r
    cases e
    obtain ⟨v, F1, e1, _⟩ := Reps.getS rs (List.getElem?_eq_getElem hi)
    exact ⟨vs, v, hq, e1⟩
  yld := fun {i Z H F x H'} hi r w y => by
    rw [numb_len] at hi
    obtain ⟨T, u, rfl, hT, rfl, y⟩ := y
    obtain ⟨b, vs, e, hq, _, rs, _⟩ := r
    cases e
    obtain ⟨v, F1, e1, r1, s1⟩ := Reps.getS rs (List.getElem?_eq_getElem hi)
    rw [y vs hq] at e1
    cases e1
    rw [List.sublist_nil.mp s1] at r1
    refine ⟨_, numb_get 0 xs i _ (List.getElem?_eq_getElem hi), Kp.new hT, (Step.refl w).put hT, T, _, rfl, upd_same, ?_⟩
    rw [Nat.zero_add]
    exact ⟨_, _, [], [], rfl, ⟨rfl, rfl⟩, Reps.one (r1.new hT), rfl⟩
  stop := fun {i Z H} r hi => by
    rw [numb_len] at hi
    obtain ⟨b, vs, e, hq, _, rs, _⟩ := r
    cases e
    exact ⟨vs, hq, by rw [rs.length]; exact hi⟩
theorem pair2_get : ∀ (xs ys : List D) (i : Nat) (d e : D), xs[i]? = some d → ys[i]? = some e → (pair2 xs ys)[i]? = some (.tup [d, e])
  | [], _, _, _, _, h, _ => by simp at h
  | _ :: _, [], _, _, _, _, h => by simp at h
  | x :: xs, y :: ys, 0, d, e, h1, h2 => by
    simp at h1 h2
    subst h1 h2
    rfl
  | x :: xs, y :: ys, i + 1, d, e, h1, h2 => by
    unfold pair2
    rw [List.getElem?_cons_succ]
    exact pair2_get xs ys i d e (by simpa using h1) (by simpa using h2)
theorem pair2_len : ∀ (xs ys : List D), (pair2 xs ys).length = min xs.length ys.length
  | [], _ => by simp [pair2]
  | _ :: _, [] => by simp [pair2]
  | x :: xs, y :: ys => by
    unfold pair2
    rw [List.length_cons, pair2_len xs ys, List.length_cons, List.length_cons]
    omega
theorem feeds_zipL {a b : Addr} {xs ys : List D} : Feeds c (Itz c.K a b) (pair2 xs ys) (fun Z H => c.R Z H (.lst false xs) (.ref a) [] ∧ c.R Z H (.lst false ys) (.ref b) []) where
  keep := fun r w s => ⟨rep0 r.1 w s, rep0 r.2 w s⟩
  go := fun {i Z H} r hi => by
    rw [pair2_len] at hi
    obtain ⟨⟨b, vs, e, hq, _, rs, _⟩, ⟨b', vs', e', hq', _, rs', _⟩⟩ := r
    cases e
    cases e'
    obtain ⟨v, F1, e1, _⟩ := Reps.getS (i := i) rs (List.getElem?_eq_getElem (by omega))
    obtain ⟨v', F1', e1', _⟩ := Reps.getS (i := i) rs' (List.getElem?_eq_getElem (by omega))
    exact ⟨vs, vs', v, v', hq, hq', e1, e1'⟩
  yld := fun {i Z H F x H'} hi r w y => by
    rw [pair2_len] at hi
    obtain ⟨T, u, u', rfl, hT, rfl, y, y'⟩ := y
    obtain ⟨⟨b, vs, e, hq, _, rs, _⟩, ⟨b', vs', e', hq', _, rs', _⟩⟩ := r
    cases e
    cases e'
    have l1 : i < xs.length := by omega
    have l2 : i < ys.length := by omega
    obtain ⟨v, F1, e1, r1, s1⟩ := Reps.getS rs (List.getElem?_eq_getElem l1)
    obtain ⟨v', F1', e1', r1', s1'⟩ := Reps.getS rs' (List.getElem?_eq_getElem l2)
    rw [y vs hq] at e1
    rw [y' vs' hq'] at e1'
    cases e1
    cases e1'
    rw [List.sublist_nil.mp s1] at r1
    rw [List.sublist_nil.mp s1'] at r1'
    exact ⟨_, pair2_get xs ys i _ _ (List.getElem?_eq_getElem l1) (List.getElem?_eq_getElem l2), Kp.new hT, (Step.refl w).put hT, T, _, rfl, upd_same, _, _, [], [], rfl, r1.new hT, Reps.one (r1'.new hT), rfl⟩
  stop := fun {i Z H} r hi => by
    rw [pair2_len] at hi
    obtain ⟨⟨b, vs, e, hq, _, rs, _⟩, ⟨b', vs', e', hq', _, rs', _⟩⟩ := r
    cases e
    cases e'
    exact ⟨vs, vs', hq, hq', by rw [rs.length, rs'.length]; omega⟩
theorem feeds_zipT {a b : Addr} {xs ys : List D} : Feeds c (RZ.ItzT c.K a b) (pair2 xs ys) (fun Z H => c.R Z H (.tup xs) (.ref a) [] ∧ c.R Z H (.tup ys) (.ref b) []) where
  keep := fun r w s => ⟨rep0 r.1 w s, rep0 r.2 w s⟩
  go := fun {i Z H} r hi => by
    rw [pair2_len] at hi
    obtain ⟨⟨b, vs, e, hq, rs⟩, ⟨b', vs', e', hq', rs'⟩⟩ := r
    cases e
    cases e'
    obtain ⟨v, F1, e1, _⟩ := Reps.getS (i := i) rs (List.getElem?_eq_getElem (by omega))
    obtain ⟨v', F1', e1', _⟩ := Reps.getS (i := i) rs' (List.getElem?_eq_getElem (by omega))
    exact ⟨vs, vs', v, v', SqT.of hq, SqT.of hq', e1, e1'⟩
  yld := fun {i Z H F x H'} hi r w y => by
    rw [pair2_len] at hi
    obtain ⟨T, u, u', rfl, hT, rfl, y, y'⟩ := y
    obtain ⟨⟨b, vs, e, hq, rs⟩, ⟨b', vs', e', hq', rs'⟩⟩ := r
    cases e
    cases e'
    have l1 : i < xs.length := by omega
    have l2 : i < ys.length := by omega
    obtain ⟨v, F1, e1, r1, s1⟩ := Reps.getS rs (List.getElem?_eq_getElem l1)
    obtain ⟨v', F1', e1', r1', s1'⟩ := Reps.getS rs' (List.getElem?_eq_getElem l2)
    rw [y vs (SqT.of hq)] at e1
    rw [y' vs' (SqT.of hq')] at e1'
    cases e1
    cases e1'
    rw [List.sublist_nil.mp s1] at r1
    rw [List.sublist_nil.mp s1'] at r1'
    exact ⟨_, pair2_get xs ys i _ _ (List.getElem?_eq_getElem l1) (List.getElem?_eq_getElem l2), Kp.new hT, (Step.refl w).put hT, T, _, rfl, upd_same, _, _, [], [], rfl, r1.new hT, Reps.one (r1'.new hT), rfl⟩
  stop := fun {i Z H} r hi => by
    rw [pair2_len] at hi
    obtain ⟨⟨b, vs, e, hq, rs⟩, ⟨b', vs', e', hq', rs'⟩⟩ := r
    cases e
    cases e'
    exact ⟨vs, vs', SqT.of hq, SqT.of hq', by rw [rs.length, rs'.length]; omega⟩
end

/-! ### how they begin -/
section
variable {c : Vc} {X : Cx} {tg e e2 : Expr} {f g : CE} {p pos tpos : Pos} {elts : List Expr} {kk : Nat}
/-- a list is frozen, then walked -/
theorem lst_frz {o : Bool} {xs : List D} {Z Z1 : Addr → Prop} {H H1 : Hp} {F G F1 : List Addr} {v : V} {en : List D} {σ : L2.St} (s : Step Z Z1 H H1 F (G ++ F1)) (r : c.R Z1 H1 (.lst o xs) v G) (a1 : c.At Z1 H1 en σ F1) :
    ∃ a vs Z2, v = .ref a ∧ SqL c.K H1 a vs ∧ Step Z Z2 H H1 F F1 ∧ c.At Z2 H1 en σ F1 ∧ c.R Z2 H1 (.lst false (frzL xs)) (.ref a) [] := by
  have t := s.freeze
  have rf := Rep.frz (Z' := fun a => Z1 a ∨ a ∈ G) (fun _ z => .inl z) _ v G r (fun b m => .inr m)
  obtain ⟨a, vs, e, hq, _, _, _⟩ := id (show c.R _ H1 (.lst false (frzL xs)) v [] from rf)
  subst e
  exact ⟨a, vs, _, rfl, hq, t, ⟨RepS.frame (X := []) (fun _ _ e _ => e) (fun b m => by cases m) (fun _ z => .inl z) a1.rep (fun b _ m => by cases m), t.wd, a1.pin⟩, rf⟩
/-- a list, a tuple or a text -/
theorem pi_val (hK : X.K = c.K) (he : PE X e (tV c f)) : PI X tg e (tIt c (iVal f)) := by
  refine ⟨fun pins s σ H R I h => ?_⟩
  obtain ⟨Z, env, F, a, h⟩ := h
  unfold iVal at h
  cases e1 : f env with
  | bad => rw [e1] at h; exact h.elim
  | exc x e2 =>
    rw [e1] at h
    exact (pi_list he).run pins s σ H R I (tV.go a (by rw [e1]; exact h))
  | ok d e2 =>
    rw [e1] at h
    simp only at h
    have up : ∀ {Z1 : Addr → Prop} {H1 : Hp} {G F1 : List Addr}, Step Z Z1 H H1 F (G ++ F1) → c.At Z1 H1 e2 σ F1 → Step Z (fun a => Z1 a ∨ a ∈ G) H H1 F F1 ∧ c.At (fun a => Z1 a ∨ a ∈ G) H1 e2 σ F1 := fun s1 a1 =>
      ⟨s1.freeze, RepS.frame (X := []) (fun _ _ e _ => e) (fun b m => by cases m) (fun _ z => .inl z) a1.rep (fun b _ m => by cases m), s1.freeze.wd, a1.pin⟩
    cases d with
    | lst o xs =>
      refine (pi_list he).run pins s σ H R I (tV.go a ?_)
      rw [e1]
      intro Z1 H1 v G F1 s1 r a1
      obtain ⟨b, vs, Z2, rfl, hq, t, a2, rf⟩ := lst_frz s1 r a1
      rw [hK]
      exact ⟨b, rfl, ⟨vs, hq⟩, h Z2 H1 F1 _ _ t a2 feeds_lst rf⟩
    | tup xs =>
      refine (pi_tup he).run pins s σ H R I (tV.go a ?_)
      rw [e1]
      intro Z1 H1 v G F1 s1 r a1
      have rf := Rep.frz (Z' := fun a => Z1 a ∨ a ∈ G) (fun _ z => .inl z) _ v G r (fun b m => .inr m)
      obtain ⟨b, vs, rfl, hq, _⟩ := id (show c.R _ H1 (.tup (frzL xs)) v [] from rf)
      rw [hK]
      exact ⟨b, rfl, ⟨vs, SqT.of hq⟩, h _ H1 F1 _ _ (up s1 a1).1 (up s1 a1).2 feeds_tup rf⟩
    | ktp xs =>
      refine (pi_tup he).run pins s σ H R I (tV.go a ?_)
      rw [e1]
      intro Z1 H1 v G F1 s1 r a1
      have rf := Rep.frz (Z' := fun a => Z1 a ∨ a ∈ G) (fun _ z => .inl z) _ v G r (fun b m => .inr m)
      obtain ⟨b, vs, rfl, hq, _⟩ := id (show c.R _ H1 (.ktp (frzL xs)) v [] from rf)
      rw [hK]
      exact ⟨b, rfl, ⟨vs, KT.sq hq⟩, h _ H1 F1 _ _ (up s1 a1).1 (up s1 a1).2 feeds_ktp rf⟩
    | str z =>
      refine (pi_str he).run pins s σ H R I (tV.go a ?_)
      rw [e1]
      intro Z1 H1 v G F1 s1 r a1
      obtain ⟨rfl, rfl⟩ := r
      exact ⟨z, rfl, h Z1 H1 F1 _ _ s1 a1 feeds_str trivial⟩
    | _ => exact h.elim
/-- arguments, then what walks -/
theorem iof_run {q : List D → Option (List D)} {fs : List CE} {σ : L2.St} {H : Hp} {R : It → Hp → Prop} {T : List V → Hp → Prop} (h : tIt c (iOf q fs) σ H R)
    (k : ∀ ds xs vs Z H G F1 e Z0 H0 F0, q ds = some xs → c.Rs Z H ds vs G → Step Z0 Z H0 H F0 (G ++ F1) → c.At Z H e σ F1 → (∀ Z' F' J S, Step Z0 Z' H0 H F0 F' → c.At Z' H e σ F' → Feeds c J xs S → S Z' H → R J H) → T vs H) : tAs c fs σ H T := by
  obtain ⟨Z, env, F, a, h⟩ := h
  refine tAs.go a ?_
  unfold iOf at h
  cases e1 : evA fs env with
  | bad => rw [e1] at h; exact h
  | exc x e2 => rw [e1] at h; exact h
  | ok ds e2 =>
    rw [e1] at h
    simp only at h
    intro Z1 H1 vs G F1 s1 r a1
    cases e3 : q ds with
    | none => rw [e3] at h; exact h.elim
    | some xs =>
      rw [e3] at h
      exact k ds xs vs Z1 H1 G F1 e2 Z H F e3 r s1 a1 fun Z' F' J S s2 a2 fd sx => h Z' H1 F' J S s2 a2 fd sx
theorem frz_all {Z Z1 : Addr → Prop} {H H1 : Hp} {F G F1 : List Addr} {en : List D} {σ : L2.St} {ds : List D} {vs : List V} (s : Step Z Z1 H H1 F (G ++ F1)) (r : c.Rs Z1 H1 ds vs G) (a1 : c.At Z1 H1 en σ F1) :
    ∃ Z2, Step Z Z2 H H1 F F1 ∧ c.At Z2 H1 en σ F1 ∧ c.Rs Z2 H1 (frzL ds) vs [] := by
  have t := s.freeze
  exact ⟨_, t, ⟨RepS.frame (X := []) (fun _ _ e _ => e) (fun b m => by cases m) (fun _ z => .inl z) a1.rep (fun b _ m => by cases m), t.wd, a1.pin⟩, Reps.frz (Z' := fun a => Z1 a ∨ a ∈ G) (fun _ z => .inl z) ds vs G r (fun b m => .inr m)⟩
theorem pi_rng1 (hg : Gl X "range") (hm : X.mg "range" = none) (ha : PA X [e] (tAs c [f])) (hs : starEach [e] X.env = [(false, eval e X.env)] := by rfl) : PI X tg (.Call (.Name "range" p) [e] [] pos) (tIt c (iOf gRange1 [f])) :=
  (pi_range1 hg hm ha hs).imp fun σ H R h => iof_run h fun ds xs vs Z1 H1 G F1 e Z0 H0 F0 ed r s1 a1 k => by
    unfold gRange1 at ed
    split at ed
    · split at ed
      · rename_i n hn
        cases ed
        obtain ⟨v, rfl, ⟨rfl, rfl⟩⟩ := r.one'
        have q := feeds_range (c := c) (a := 0) (n := n.toNat)
        simp only [Int.zero_add] at q
        exact ⟨n, rfl, hn.1, hn.2, k Z1 F1 _ _ s1 a1 q trivial⟩
      · cases ed
    · cases ed
theorem pi_rng2 (hg : Gl X "range") (hm : X.mg "range" = none) (ha : PA X [e, e2] (tAs c [f, g])) (hs : starEach [e, e2] X.env = [(false, eval e X.env), (false, eval e2 X.env)] := by rfl) (hs2 : starEach [e2] X.env = [(false, eval e2 X.env)] := by rfl) : PI X tg (.Call (.Name "range" p) [e, e2] [] pos) (tIt c (iOf gRange2 [f, g])) :=
  (pi_range2 hg hm ha hs hs2).imp fun σ H R h => iof_run h fun ds xs vs Z1 H1 G F1 e Z0 H0 F0 ed r s1 a1 k => by
    unfold gRange2 at ed
    split at ed
    · split at ed
      · rename_i a b hn
        cases ed
        obtain ⟨v, u, G1, G2, rfl, ⟨rfl, rfl⟩, ⟨rfl, rfl⟩, rfl⟩ := r.two'
        exact ⟨a, b, rfl, ⟨hn.1, hn.2.1, hn.2.2.1, hn.2.2.2⟩, k Z1 F1 _ _ s1.drop a1 feeds_range trivial⟩
      · cases ed
    · cases ed
theorem pi_enu (hK : X.K = c.K) (hg : Gl X "enumerate") (hm : X.mg "enumerate" = none) (ha : PA X [e] (tAs c [f])) (hs : starEach [e] X.env = [(false, eval e X.env)] := by rfl) : PI X (.Tuple elts kk tpos) (.Call (.Name "enumerate" p) [e] [] pos) (tIt c (iOf gEnum [f])) :=
  (pi_enum hg hm ha hs).imp fun σ H R h => iof_run h fun ds xs vs Z1 H1 G F1 e Z0 H0 F0 ed r s1 a1 k => by
    unfold gEnum at ed
    split at ed
    · cases ed
      obtain ⟨v, rfl, r1⟩ := r.one'
      obtain ⟨b, us, Z2, rfl, hq, t, a2, rf⟩ := lst_frz s1 r1 a1
      rw [hK]
      exact ⟨b, us, rfl, hq, k Z2 F1 _ _ t a2 feeds_enum rf⟩
    · cases ed
theorem pi_zp (hK : X.K = c.K) (hg : Gl X "zip") (hm : X.mg "zip" = none) (ha : PA X [e, e2] (tAs c [f, g])) (hs : starEach [e, e2] X.env = (false, eval e X.env) :: starEach [e2] X.env := by rfl) (hpl : (backTo pos (starEach [e2] X.env)).any (·.1) = false := by rfl) : PI X (.Tuple elts kk tpos) (.Call (.Name "zip" p) [e, e2] [] pos) (tIt c (iOf gZip [f, g])) :=
  (RZ.pi_zipA hg hm ha hs hpl).imp fun σ H R h => iof_run h fun ds xs vs Z1 H1 G F1 e Z0 H0 F0 ed r s1 a1 k => by
    unfold gZip at ed
    split at ed
    · cases ed
      obtain ⟨Z2, t, a2, rr⟩ := frz_all s1 r a1
      obtain ⟨v, u, G1, G2, rfl, r1, r2, eG⟩ := Reps.two' rr
      obtain ⟨rfl, rfl⟩ := List.append_eq_nil_iff.mp eG.symm
      obtain ⟨a, us, rfl, hq, _⟩ := id r1
      obtain ⟨b, ws, rfl, hq2, _⟩ := id r2
      rw [hK]
      exact ⟨a, b, us, ws, rfl, .inl ⟨hq, hq2, k Z2 F1 _ _ t a2 feeds_zipL ⟨r1, r2⟩⟩⟩
    · cases ed
      obtain ⟨Z2, t, a2, rr⟩ := frz_all s1 r a1
      obtain ⟨v, u, G1, G2, rfl, r1, r2, eG⟩ := Reps.two' rr
      obtain ⟨rfl, rfl⟩ := List.append_eq_nil_iff.mp eG.symm
      obtain ⟨a, us, rfl, hq, _⟩ := id r1
      obtain ⟨b, ws, rfl, hq2, _⟩ := id r2
      rw [hK]
      exact ⟨a, b, us, ws, rfl, .inr ⟨SqT.of hq, SqT.of hq2, k Z2 F1 _ _ t a2 feeds_zipT ⟨r1, r2⟩⟩⟩
    · cases ed
end

/-! ### targets -/
inductive Tr where
  | n (i : Nat) | t (is : List Nat)
def Tr.ids : Tr → List Nat
  | .n i => [i]
  | .t is => is
def Tr.set : Tr → D → List D → Option (List D)
  | .n i, d, e => some (e.set i d)
  | .t is, .tup ds, e => if ds.length = is.length then some (setAll is ds e) else none
  | .t is, .ktp ds, e => if ds.length = is.length then some (setAll is ds e) else none
  | _, _, _ => none
def Tr.g (K : PySem.W.Frag) : Tr → TG
  | .n i => gName i
  | .t is => gTup K is.length (gSet is)
/-- the slots at is alone may have changed -/
def OutEq (is : List Nat) (σ σ' : L2.St) : Prop := σ'.length = σ.length ∧ ∀ i, i ∉ is → σ'[i]? = σ[i]?
section
variable {c : Vc}
theorem gset_out : ∀ (is : List Nat) (vs : List V) {σ : L2.St} {H : Hp} {Q : L2.St → Hp → Prop}, gSet is vs σ H Q → ∃ σ', OutEq is σ σ' ∧ (∀ Q' : L2.St → Hp → Prop, gSet is vs σ H Q' ↔ Q' σ' H)
  | [], vs, σ, H, Q, h => ⟨σ, ⟨rfl, fun _ _ => rfl⟩, fun Q' => ⟨fun h' => h'.2, fun h' => ⟨h.1, h'⟩⟩⟩
  | i :: is, vs, σ, H, Q, h => by
    obtain ⟨v, r, rfl, h⟩ := h
    obtain ⟨σ', ⟨o1, o2⟩, k⟩ := gset_out is r h
    refine ⟨σ', ⟨by rw [o1, List.length_set], fun j hj => ?_⟩, fun Q' => ⟨fun ⟨v', r', e, h'⟩ => ?_, fun h' => ⟨v, r, rfl, (k Q').mpr h'⟩⟩⟩
    · rw [o2 j (fun m => hj (List.mem_cons_of_mem _ m)), List.getElem?_set_ne]
      intro e; exact hj (by rw [e]; exact List.mem_cons_self)
    · cases e
      exact (k Q').mp h'
theorem Tr.run {tg : Tr} {d : D} {v : V} {Z : Addr → Prop} {H : Hp} {env e' : List D} {σ : L2.St} {F G : List Addr} {Q : L2.St → Hp → Prop} (h : tg.set d env = some e') (hi : ∀ i ∈ tg.ids, i ∉ c.ios) (r : c.R Z H d v G) (re : c.E Z H env σ F) (w : Wd Z H (G ++ F)) (p : c.Pin σ)
    (k : ∀ F' σ', F'.Nodup → (∀ a ∈ F', a ∈ G ++ F) → c.E Z H e' σ' F' → c.Pin σ' → OutEq tg.ids σ σ' → Q σ' H) : tg.g c.K v σ H Q := by
  have multi : ∀ {is : List Nat} {ds : List D} {vs : List V}, (∀ i ∈ is, i ∉ c.ios) → ds.length = is.length → c.Rs Z H ds vs G → (∀ F' σ', F'.Nodup → (∀ a ∈ F', a ∈ G ++ F) → c.E Z H (setAll is ds env) σ' F' → c.Pin σ' → OutEq is σ σ' → Q σ' H) → gSet is vs σ H Q := fun {is ds vs} hi hl rs k => by
    have q1 := unp_all (Q := fun σ' H' => OutEq is σ σ' → Q σ' H') is ds vs hi hl rs re w p fun F' σ' n i e p o => k F' σ' n i e p o
    obtain ⟨σ', o, kk⟩ := gset_out is vs q1
    exact (kk Q).mpr ((kk _).mp q1 o)
  cases tg with
  | n i =>
    cases h
    obtain ⟨F1, re1, n1, i1⟩ := RepS.set (i := i) re r w.nd
    refine k F1 _ n1 i1 re1 (fun j hj => ?_) ⟨List.length_set, fun j hj => ?_⟩
    · rw [List.getElem?_set_ne (notin_ne (hi i List.mem_cons_self) hj)]
      exact p j hj
    · exact List.getElem?_set_ne fun e => hj (by rw [e]; exact List.mem_cons_self)
  | t is =>
    unfold Tr.set at h
    split at h
    · cases ‹Tr.t is = _›
    · rename_i hh
      cases ‹Tr.t is = _›
      split at h
      · rename_i hl
        cases h
        obtain ⟨b, vs, rfl, hb, rs⟩ := r
        exact ⟨b, vs, rfl, SqT.of hb, by rw [rs.length]; exact hl, multi hi hl rs k⟩
      · cases h
    · cases ‹Tr.t is = _›
      split at h
      · rename_i hl
        cases h
        obtain ⟨b, vs, rfl, hb, rs, rfl⟩ := r
        exact ⟨b, vs, rfl, KT.sq hb, by rw [rs.length]; exact hl, multi hi hl rs k⟩
      · cases h
    · cases h
/-- a target as it is written -/
inductive TrOk (X : Cx) : Expr → Tr → Prop where
  | n {i : Nat} {x : Str} {p : Pos} : X.N[i]? = some x → Loc X.env.scope x → (X.fn x = true ∨ X.env.scope.names.lookup x = some .local) → TrOk X (.Name x p) (.n i)
  | t {es : List Expr} {is : List Nat} {k : Nat} {p : Pos} : Tgs X es is → (assignEach es X.env).findIdx? (·.1) = none → TrOk X (.Tuple es k p) (.t is)
theorem TrOk.pg {X : Cx} {e : Expr} {tg : Tr} (h : TrOk X e tg) (hN : X.N.Nodup) (hc : X.calm = true) (hK : X.K = c.K) : PG X e (tg.g c.K) := by
  cases h with
  | n h1 h2 h3 => exact pg_name hN h1 h2 h3
  | t h1 h2 => rw [← hK]; exact pg_tup (n := _) hc (h1.pgs hN) h1.len h2
end

/-! ### for -/
def loopF (tg : Tr) (body : CS) : List D → List D → RS
  | [], env => .nx env
  | d :: ds, env => match tg.set d env with
    | none => .bad
    | some e => match body e with
      | .nx e' => loopF tg body ds e'
      | .ct e' => loopF tg body ds e'
      | .bk e' => .nx e'
      | r => r
def sFor (tg : Tr) (it : List D → RA) (body : CS) : CS := fun env => (it env).bindS fun items e => loopF tg body items e
section
variable {c : Vc} {σ : L2.St} {H : Hp} {E : Ends}
theorem for_run {tg : Tr} {it : List D → RA} {body : CS} (hi : ∀ i ∈ tg.ids, i ∉ c.ios) (h : tS c (sFor tg it body) E σ H) : tFor (tIt c it) (tg.g c.K) (tS c body) E σ H := by
  obtain ⟨Z, env, F, a, h⟩ := h
  refine ⟨Z, env, F, a, ?_⟩
  unfold sFor at h
  cases e0 : it env with
  | bad => rw [e0] at h; exact h
  | exc x e1 => rw [e0] at h; exact postXS.at h a.pin
  | ok items e1 =>
    rw [e0] at h
    simp only [RA.bindS] at h
    intro Z1 H1 F1 J S s1 a1 fd sx
    refine ⟨fun i m σ H => m = items.length - i ∧ i ≤ items.length ∧ ∃ Z2 env2 F2, c.At Z2 H env2 σ F2 ∧ S Z2 H ∧ postS c Z2 H F2 E (loopF tg body (items.drop i) env2), ⟨_, rfl, Nat.zero_le _, Z1, e1, F1, a1, sx, postS.later h s1⟩, ?_⟩
    rintro i m σ2 H2 ⟨rfl, hle, Z2, env2, F2, a2, s2, p2⟩
    by_cases hlt : i < items.length
    · refine .inr ⟨fd.go s2 hlt, fun σ' H' => ∃ Z2 env2 F2, c.At Z2 H' env2 σ' F2 ∧ S Z2 H' ∧ postS c Z2 H' F2 E (loopF tg body (items.drop (i + 1)) env2), fun σ' H' n => ⟨_, by omega, rfl, hlt, n⟩, fun x H3 y => ?_⟩
      obtain ⟨d, ed, _, s3, r3⟩ := fd.yld hlt s2 a2.wd y
      have a3 : c.At Z2 H3 env2 σ2 F2 := a2.step0 s3 (RepS.frame (X := []) (fd.yld hlt s2 a2.wd y).choose_spec.2.1 (fun b m => by cases m) (fun _ z => z) a2.rep (fun b _ m => by cases m))
      have sS := fd.keep s2 a2.wd s3
      obtain ⟨hi', hd'⟩ := List.getElem?_eq_some_iff.mp ed
      rw [List.drop_eq_getElem_cons hlt, hd'] at p2
      unfold loopF at p2
      cases et : tg.set d env2 with
      | none => rw [et] at p2; exact p2.elim
      | some e4 =>
        rw [et] at p2
        simp only at p2
        refine Tr.run et hi r3 a3.rep (by simpa using a3.wd) a3.pin fun F4 σ4 n4 i4 re4 pn4 _ => ?_
        have s4 : Step Z2 Z2 H2 H3 F2 F4 := s3.sub n4 (by simpa using i4)
        have sS4 := fd.keep s2 a2.wd s4
        refine ⟨Z2, e4, F4, ⟨re4, s4.wd, pn4⟩, ?_⟩
        cases eb : body e4 with
        | nx e5 =>
          rw [eb] at p2
          exact fun Z' H' F' σ' st re pn => ⟨Z', e5, F', ⟨re, st.wd, pn⟩, fd.keep sS4 s4.wd st, postS.later p2 (s4.trans st)⟩
        | ct e5 =>
          rw [eb] at p2
          exact fun Z' H' F' σ' st re pn => ⟨Z', e5, F', ⟨re, st.wd, pn⟩, fd.keep sS4 s4.wd st, postS.later p2 (s4.trans st)⟩
        | bk e5 =>
          rw [eb] at p2
          exact fun Z' H' F' σ' st re pn => p2 Z' H' F' σ' (s4.trans st) re pn
        | rt d5 e5 => rw [eb] at p2; exact fun Z' H' v G F' σ' st rv re pn => p2 Z' H' v G F' σ' (s4.trans st) rv re pn
        | exc x5 e5 => rw [eb] at p2; exact fun Z' H' F' σ' cls dd st re pn rx => p2 Z' H' F' σ' cls dd (s4.trans st) re pn rx
        | bad => rw [eb] at p2; exact p2.elim
    · refine .inl ⟨fd.stop s2 (by omega), ?_⟩
      rw [List.drop_eq_nil_of_le (by omega)] at p2
      exact p2 Z2 H2 F2 σ2 (Step.refl a2.wd) a2.rep a2.pin
end
section
variable {c : Vc} {X : Cx}
theorem ss_for {tg iter : Expr} {t : Tr} {it : List D → RA} {body : List Stmt} {fb : CS} {pos : Pos} (hp : PassesOwn (model X.prog X.w) X.A X.env X.xe) (hc : X.calm = true) (hN : X.N.Nodup) (hK : X.K = c.K) (hi : ∀ i ∈ t.ids, i ∉ c.ios) (ht : TrOk X tg t) (hw : PI X tg iter (tIt c it)) (hb : PSs X body (tS c fb))
    (hs : ∀ x, foldedSetIterable iter X.env x = pure x := by intro _; rfl) : PS X (.For tg iter body [] pos) (tS c (sFor t it fb)) :=
  (ps_for hp hc hw (ht.pg hN hc hK) hb hs).imp fun D σ H h => for_run hi h
end

/-! ### while -/
def whF (t : CE) (body : CS) : Nat → List D → Option RS
  | 0, _ => none
  | n + 1, env => match t env with
    | .ok (.bl true) e => match body e with
      | .nx e' => whF t body n e'
      | .ct e' => whF t body n e'
      | .bk e' => some (.nx e')
      | r => some r
    | .ok (.bl false) e => some (.nx e)
    | .exc x e => some (.exc x e)
    | _ => some .bad
theorem whF_mono (t : CE) (body : CS) : ∀ (n m : Nat) (env : List D) (r : RS), whF t body n env = some r → n ≤ m → whF t body m env = some r
  | 0, m, env, r, h, _ => by cases h
  | n + 1, 0, env, r, h, hl => by omega
  | n + 1, m + 1, env, r, h, hl => by
    unfold whF at h ⊢
    split at h
    · split at h
      · rename_i e' eb
        try rw [eb]
        exact whF_mono t body n m _ r h (by omega)
      · rename_i e' eb
        try rw [eb]
        exact whF_mono t body n m _ r h (by omega)
      · rename_i e' eb
        try rw [eb]
        exact h
      · exact h
    · exact h
    · exact h
    · exact h
open Classical in
noncomputable def sWhile (t : CE) (body : CS) : CS := fun env => if h : ∃ n r, whF t body n env = some r then h.choose_spec.choose else .bad
theorem sWhile_eq {t : CE} {body : CS} {n : Nat} {env : List D} {r : RS} (h : whF t body n env = some r) : sWhile t body env = r := by
  unfold sWhile
  have hx : ∃ n r, whF t body n env = some r := ⟨n, r, h⟩
  rw [dif_pos hx]
  have q := hx.choose_spec.choose_spec
  have a := whF_mono t body _ (max n hx.choose) env _ q (Nat.le_max_right _ _)
  have b := whF_mono t body _ (max n hx.choose) env _ h (Nat.le_max_left _ _)
  rw [a] at b
  exact Option.some.inj b
section
variable {c : Vc} {σ : L2.St} {H : Hp} {E : Ends}
theorem while_run {t : CE} {body : CS} (h : tS c (sWhile t body) E σ H) : tWhile (tT c t) (tS c body) E σ H := by
  obtain ⟨Z, env, F, a, h⟩ := h
  have hx : ∃ n r, whF t body n env = some r := by
    by_cases q : ∃ n r, whF t body n env = some r
    · exact q
    · unfold sWhile at h
      rw [dif_neg q] at h
      exact h.elim
  obtain ⟨n0, r0, e0⟩ := hx
  rw [sWhile_eq e0] at h
  refine ⟨fun m σ H => ∃ Z env F r, c.At Z H env σ F ∧ whF t body m env = some r ∧ postS c Z H F E r, ⟨n0, Z, env, F, r0, a, e0, h⟩, ?_⟩
  rintro m σ2 H2 ⟨Z2, env2, F2, r2, a2, e2, p2⟩
  cases m with
  | zero => cases e2
  | succ m =>
    refine tT.go a2 ?_
    unfold whF at e2
    cases et : t env2 with
    | bad => rw [et] at e2; cases e2; exact p2
    | exc x e3 => rw [et] at e2; cases e2; exact postXS.at p2 a2.pin
    | ok d e3 =>
      rw [et] at e2
      simp only at e2
      cases d with
      | bl b =>
        refine ⟨b, rfl, fun Z3 H3 F3 s3 a3 => ?_⟩
        cases b with
        | true =>
          rw [if_pos rfl]
          simp only at e2
          refine ⟨fun σ' H' => ∃ Z env F r, c.At Z H' env σ' F ∧ whF t body m env = some r ∧ postS c Z H' F E r, fun σ' H' w => ⟨m, Nat.lt_succ_self m, w⟩, Z3, e3, F3, a3, ?_⟩
          cases eb : body e3 with
          | nx e5 =>
            rw [eb] at e2
            exact fun Z' H' F' σ' st re pn => ⟨Z', e5, F', r2, ⟨re, st.wd, pn⟩, e2, postS.later p2 (s3.trans st)⟩
          | ct e5 =>
            rw [eb] at e2
            exact fun Z' H' F' σ' st re pn => ⟨Z', e5, F', r2, ⟨re, st.wd, pn⟩, e2, postS.later p2 (s3.trans st)⟩
          | bk e5 =>
            rw [eb] at e2
            cases e2
            exact fun Z' H' F' σ' st re pn => p2 Z' H' F' σ' (s3.trans st) re pn
          | rt d5 e5 => rw [eb] at e2; cases e2; exact fun Z' H' v G F' σ' st rv re pn => p2 Z' H' v G F' σ' (s3.trans st) rv re pn
          | exc x5 e5 => rw [eb] at e2; cases e2; exact fun Z' H' F' σ' cls dd st re pn rx => p2 Z' H' F' σ' cls dd (s3.trans st) re pn rx
          | bad => rw [eb] at e2; cases e2; exact p2.elim
        | false =>
          rw [if_neg Bool.false_ne_true]
          cases e2
          exact p2 Z3 H3 F3 σ2 s3 a3.rep a3.pin
      | _ => cases e2; exact p2.elim
end
section
variable {c : Vc} {X : Cx}
theorem ss_while {e : Expr} {t : CE} {body : List Stmt} {fb : CS} {pos : Pos} (hp : PassesOwn (model X.prog X.w) X.A X.env X.xe) (ht : PT X e (tT c t)) (hb : PSs X body (tS c fb)) : PS X (.While e body [] pos) (tS c (sWhile t fb)) :=
  (ps_while hp ht hb).imp fun D σ H h => while_run h
end
end VL

set_option Elab.async false
set_option maxRecDepth 100000
/-! VK: list comprehensions. -/
namespace VL
open PySem L2 PySem.Spec PyProof.Rows

def killL (own : List Nat) (env : List D) : List D := own.foldr (fun i e => e.set i .dead) env
section
variable {K : PySem.W.Frag} {mg : Str → Option Value} {Z : Addr → Prop} {H : Hp}
/-- slots that are given up may hold anything -/
theorem RepS.swap : ∀ {env : List D} {σ σ' : L2.St} {F : List Addr}, RepS K mg Z H env σ F → σ'.length = σ.length → (∀ (i : Nat) (d : D), env[i]? = some d → d.isDead = false → σ'[i]? = σ[i]?) → RepS K mg Z H env σ' F
  | [], σ, σ', F, h, hl, _ => by
    obtain ⟨rfl, rfl⟩ := h
    exact ⟨List.eq_nil_of_length_eq_zero hl, rfl⟩
  | d :: ds, σ, σ', F, h, hl, k => by
    obtain ⟨s, r, F1, F2, rfl, h1, h2, rfl⟩ := h
    cases σ' with
    | nil => simp at hl
    | cons s' r' =>
      refine ⟨s', r', F1, F2, rfl, ?_, RepS.swap h2 (by simpa using hl) (fun i d e nd => by simpa using k (i + 1) d (by simpa using e) nd), rfl⟩
      rcases h1 with h1 | ⟨v, e, h1⟩
      · exact .inl h1
      · refine .inr ⟨v, ?_, h1⟩
        have q := k 0 d rfl (by cases d <;> first | rfl | exact h1.elim)
        simp at q
        rw [q, e]
theorem killL_at (i : Nat) : ∀ (own : List Nat) (env : List D), (killL own env)[i]? = if i ∈ own then (env[i]?).map (fun _ => D.dead) else env[i]?
  | [], env => by simp [killL]
  | j :: own, env => by
    have ih := killL_at i own env
    unfold killL at ih ⊢
    rw [List.foldr_cons, List.getElem?_set]
    by_cases e : j = i
    · subst e
      rw [if_pos rfl, if_pos List.mem_cons_self]
      have hl : (List.foldr (fun i e => e.set i D.dead) env own).length = env.length := by
        clear ih
        induction own with
        | nil => rfl
        | cons x xs ih => simp [ih]
      rw [hl]
      by_cases hj : j < env.length
      · rw [if_pos hj, List.getElem?_eq_getElem hj]; rfl
      · rw [if_neg hj, List.getElem?_eq_none (by omega)]; rfl
    · rw [if_neg e, ih]
      have : (i ∈ j :: own) ↔ i ∈ own := by simp [Ne.symm e]
      by_cases hm : i ∈ own
      · rw [if_pos hm, if_pos (this.mpr hm)]
      · rw [if_neg hm, if_neg (fun z => hm (this.mp z))]
theorem killL_run {σ : L2.St} : ∀ (own : List Nat) {env : List D} {F : List Addr}, RepS K mg Z H env σ F → F.Nodup → ∃ F', RepS K mg Z H (killL own env) σ F' ∧ F'.Nodup ∧ ∀ a ∈ F', a ∈ F
  | [], env, F, h, nd => ⟨F, h, nd, fun _ m => m⟩
  | i :: own, env, F, h, nd => by
    obtain ⟨F1, h1, n1, i1⟩ := killL_run own h nd
    obtain ⟨F2, h2, n2, i2⟩ := h1.kill i n1
    exact ⟨F2, h2, n2, fun a m => i1 a (i2 a m)⟩
theorem killL_dead {own : List Nat} {env : List D} {i : Nat} {d : D} (h : (killL own env)[i]? = some d) (nd : d.isDead = false) : i ∉ own := fun m => by
  rw [killL_at, if_pos m] at h
  cases e : env[i]? with
  | none => rw [e] at h; cases h
  | some x => rw [e] at h; cases h; simp [D.isDead] at nd
theorem wipeR {own : List Nat} {env : List D} {σ σ' : L2.St} {F : List Addr} (h : RepS K mg Z H (killL own env) σ F) (o : σ'.length = σ.length) (k : ∀ i, i ∉ own → σ'[i]? = σ[i]?) : RepS K mg Z H (killL own env) σ' F :=
  h.swap o fun i d e nd => k i (killL_dead e nd)
theorem wipe_in {σ : L2.St} {i : Nat} : ∀ {vs : List Nat}, i ∈ vs → (wipe σ vs)[i]? = (σ[i]?).map fun _ => none
  | [], h => by cases h
  | v :: vs, h => by
    unfold wipe
    by_cases e : v = i
    · subst e
      rw [List.getElem?_set, if_pos rfl, wipe_length]
      by_cases hv : v < σ.length
      · rw [if_pos hv, List.getElem?_eq_getElem hv]; rfl
      · rw [if_neg hv, List.getElem?_eq_none (by omega)]; rfl
    · rw [List.getElem?_set_ne e]
      exact wipe_in (by rcases List.mem_cons.mp h with h | h; exact absurd h.symm e; exact h)
/-- what differs at own slots alone is alike when they are wiped -/
theorem wipe_eq {own : List Nat} {σ σ' : L2.St} (o : σ'.length = σ.length) (k : ∀ i, i ∉ own → σ'[i]? = σ[i]?) : wipe σ' own = wipe σ own := by
  refine List.ext_getElem? fun i => ?_
  by_cases m : i ∈ own
  · rw [wipe_in m, wipe_in m]
    by_cases hi : i < σ.length
    · rw [List.getElem?_eq_getElem hi, List.getElem?_eq_getElem (by omega)]; rfl
    · rw [List.getElem?_eq_none (by omega), List.getElem?_eq_none (by omega)]
  · rw [wipe_out m, wipe_out m, k i m]
theorem wipe_wipe {own : List Nat} {σ : L2.St} : wipe (wipe σ own) own = wipe σ own := wipe_eq (wipe_length _ _) fun i m => wipe_out m
end

/-! ### a comprehension's value -/
def lcG (own : List Nat) (tg : Tr) (cond elt : CE) : List D → List D → RA
  | [], env => .ok [] env
  | d :: ds, env => match tg.set d env with
    | none => .bad
    | some e => match cond e with
      | .ok (.bl true) e1 => match elt e1 with
        | .ok y e2 => match lcG own tg cond elt ds (killL own e2) with
          | .ok ys e3 => .ok (y :: ys) e3
          | _ => .bad
        | _ => .bad
      | .ok (.bl false) e1 => lcG own tg cond elt ds (killL own e1)
      | _ => .bad
def cLc (own : List Nat) (it : List D → RA) (tg : Tr) (cond elt : CE) : CE := fun env => (it env).bind fun items e => if items.length < sizeLine then match lcG own tg cond elt items (killL own e) with
    | .ok ys e' => .ok (.lst true ys) e'
    | _ => .bad
  else .bad
def Vc.blk (c : Vc) : Vc := { c with W := fun _ _ _ _ => False }
/-- what is to come, with what came -/
def lcQ (acc : List D) : RA → RE
  | .ok ys e => .ok (.lst true (acc ++ ys)) e
  | _ => .bad
section
variable {c : Vc} {σ : L2.St} {H : Hp} {Q : VK}
theorem lc_run {own : List Nat} {it : List D → RA} {tg : Tr} {cond elt : CE} (ho : ∀ i ∈ own, i ∉ c.ios) (ht : ∀ i ∈ tg.ids, i ∈ own) (h : tV c (cLc own it tg cond elt) σ H Q) : tLc (tIt c it) (tg.g c.K) (tT c.blk cond) (tV c.blk elt) own σ H Q := by
  obtain ⟨Z, env, F, a, h⟩ := h
  refine ⟨Z, env, F, a, ?_⟩
  unfold cLc at h
  cases e0 : it env with
  | bad => rw [e0] at h; exact h
  | exc x e1 => rw [e0] at h; exact h
  | ok items e1 =>
    rw [e0] at h
    simp only [RA.bind] at h
    split at h
    · rename_i hz
      intro Z1 H1 F1 J S s1 a1 fd sx D hD
      have h' : postE c Z H F σ Q (lcQ [] (lcG own tg cond elt items (killL own e1))) := by
        cases e3 : lcG own tg cond elt items (killL own e1) with
        | ok ys e4 => rw [e3] at h; exact h
        | exc x e4 => rw [e3] at h; exact h
        | bad => rw [e3] at h; exact h
      -- the start
      obtain ⟨F2, re2, n2, i2⟩ := killL_run own a1.rep a1.wd.nd
      have s2 : Step Z Z1 H H1 F F2 := s1.sub n2 i2
      have s3 : Step Z Z1 H (upd H1 D (.lst [])) F (D :: F2) := s2.new hD mut_lst
      have pinW : c.Pin (wipe σ own) := fun i m => by rw [wipe_out (fun z => ho i z m)]; exact a.pin i m
      have st0 := (Step.refl a1.wd).put (o := .lst []) hD
      refine ⟨fun i m H => m = items.length - i ∧ i ≤ items.length ∧ ∃ Z2 env2 F2 acc A, c.R Z2 H (.lst true acc) (.ref D) (D :: A) ∧ acc.length ≤ i ∧ c.E Z2 H (killL own env2) (wipe σ own) F2 ∧ Wd Z2 H ((D :: A) ++ F2) ∧ S Z2 H ∧ postE c Z2 H ((D :: A) ++ F2) σ Q (lcQ acc (lcG own tg cond elt (items.drop i) (killL own env2))), ⟨_, rfl, Nat.zero_le _, Z1, e1, F2, [], [], ⟨D, [], [], rfl, upd_same, Reps.nil, rfl⟩, Nat.le_refl _, ?_, ?_, ?_, ?_⟩, ?_⟩
      · exact RepS.frame (X := []) (Kp.new hD) (fun b m => by cases m) (fun _ z => z) (wipeR re2 (wipe_length _ _) fun i m => wipe_out m) (fun b _ m => by cases m)
      · simpa using s3.wd
      · exact fd.keep sx a1.wd st0
      · exact postE.later h' (by simpa using s3)
      · rintro i m H2 ⟨rfl, hle, Z2, env2, F2, acc, A, rD, la, re2, wd2, sS2, p2⟩
        by_cases hlt : i < items.length
        · refine .inr ⟨fd.go sS2 hlt, fun H' => ∃ Z2 env2 F2 acc A, c.R Z2 H' (.lst true acc) (.ref D) (D :: A) ∧ acc.length ≤ i + 1 ∧ c.E Z2 H' (killL own env2) (wipe σ own) F2 ∧ Wd Z2 H' ((D :: A) ++ F2) ∧ S Z2 H' ∧ postE c Z2 H' ((D :: A) ++ F2) σ Q (lcQ acc (lcG own tg cond elt (items.drop (i + 1)) (killL own env2))), fun H' n => ⟨_, by omega, rfl, hlt, n⟩, fun x H3 y => ?_⟩
          obtain ⟨d, ed, kp3, s3, r3⟩ := fd.yld hlt sS2 wd2 y
          have rD3 : c.R Z2 H3 (.lst true acc) (.ref D) (D :: A) := Rep.frame (X := []) kp3 (fun b m => by cases m) (fun _ z => z) _ _ _ rD (fun b _ m => by cases m)
          have re3 : c.E Z2 H3 (killL own env2) (wipe σ own) F2 := RepS.frame (X := []) kp3 (fun b m => by cases m) (fun _ z => z) re2 (fun b _ m => by cases m)
          have sS3 := fd.keep sS2 wd2 s3
          obtain ⟨hi', hd'⟩ := List.getElem?_eq_some_iff.mp ed
          rw [List.drop_eq_getElem_cons hlt, hd'] at p2
          unfold lcG at p2
          cases et : tg.set d (killL own env2) with
          | none => rw [et] at p2; exact p2.elim
          | some e4 =>
            rw [et] at p2
            simp only at p2
            refine Tr.run et (fun i m => ho i (ht i m)) r3 re3 (by simpa using s3.wd.right) pinW fun F4 σ4 n4 i4 re4 pn4 o4 => ?_
            have i4' : ∀ a ∈ F4, a ∈ F2 := fun a m => by simpa using i4 a m
            have nd4 : ((D :: A) ++ F4).Nodup := List.nodup_append.mpr ⟨s3.wd.left.nd, n4, fun a m b n e => by subst e; exact s3.wd.dis a m (i4' a n)⟩
            have s4 : Step Z2 Z2 H2 H3 ((D :: A) ++ F2) ((D :: A) ++ F4) := s3.sub nd4 fun a m => by
              rcases List.mem_append.mp m with m | m
              · exact List.mem_append_left _ m
              · exact List.mem_append_right _ (i4' a m)
            have sS4 := fd.keep sS2 wd2 s4
            have ow : wipe σ4 own = wipe σ own := by
              have q := wipe_eq (own := own) o4.1 fun j hj => o4.2 j fun m => hj (ht j m)
              rw [q, wipe_wipe]
            refine ⟨ow, tT.go (c := c.blk) (Z := Z2) (env := e4) (F := F4) ⟨re4, s4.wd.right, pn4⟩ ?_⟩
            have len4 : σ4.length = (wipe σ own).length := o4.1
            have out4 : ∀ j, j ∉ own → (wipe σ own)[j]? = σ4[j]? := fun j hj => (o4.2 j fun m => hj (ht j m)).symm
            cases ec : cond e4 with
            | bad => rw [ec] at p2; exact p2.elim
            | exc x5 e5 => rw [ec] at p2; exact p2.elim
            | ok b5 e5 =>
              rw [ec] at p2
              cases b5 with
              | bl b =>
                refine ⟨b, rfl, fun Z5 H5 F5 s5 a5 => ?_⟩
                have t5 : Step Z2 Z5 H2 H5 ((D :: A) ++ F2) ((D :: A) ++ F5) := s4.seq s5
                have rD5 : c.R Z5 H5 (.lst true acc) (.ref D) (D :: A) := s5.rep s4.wd rD3
                cases b with
                | false =>
                  simp only [Bool.false_eq_true, if_false] at p2 ⊢
                  obtain ⟨F6, re6, n6, i6⟩ := killL_run own a5.rep a5.wd.nd
                  have nd6 : ((D :: A) ++ F6).Nodup := List.nodup_append.mpr ⟨t5.wd.left.nd, n6, fun a m b n e => by subst e; exact t5.wd.dis a m (i6 a n)⟩
                  have t6 : Step Z2 Z5 H2 H5 ((D :: A) ++ F2) ((D :: A) ++ F6) := t5.sub nd6 fun a m => by
                    rcases List.mem_append.mp m with m | m
                    · exact List.mem_append_left _ m
                    · exact List.mem_append_right _ (i6 a m)
                  exact ⟨Z5, e5, F6, acc, A, rD5, by omega, wipeR re6 (by rw [len4]) out4, t6.wd, fd.keep sS2 wd2 t6, postE.later p2 t6⟩
                | true =>
                  simp only [if_true] at p2 ⊢
                  refine tV.go a5 ?_
                  cases ee : elt e5 with
                  | bad => rw [ee] at p2; exact p2.elim
                  | exc x6 e6 => rw [ee] at p2; exact p2.elim
                  | ok y6 e6 =>
                    rw [ee] at p2
                    intro Z7 H7 v G F7 s7 r7 a7
                    have t7 : Step Z2 Z7 H2 H7 ((D :: A) ++ F2) ((D :: A) ++ (G ++ F7)) := t5.seq s7
                    have rD7 : c.R Z7 H7 (.lst true acc) (.ref D) (D :: A) := s7.rep t5.wd rD5
                    obtain ⟨D', us, G1, eD, hDl, qa, eA⟩ := rD7
                    cases eD
                    cases eA
                    refine ⟨us, hDl, by rw [qa.length]; omega, ?_⟩
                    obtain ⟨F8, re8, n8, i8⟩ := killL_run own a7.rep a7.wd.nd
                    have t7' : Step Z2 Z7 H2 H7 ((D :: A) ++ F2) (D :: (A ++ G) ++ F7) := by simpa using t7
                    have w7 : Wd Z7 H7 (D :: ((A ++ G) ++ F7)) := by simpa using t7'.wd
                    have nD : D ∉ (A ++ G) ++ F7 := (List.nodup_cons.mp w7.nd).1
                    have st8 := Step.wr (o := .lst (us ++ [v])) w7 mut_lst (List.nodup_cons.mp w7.nd).2 (fun _ m => m)
                    have nd8 : ((D :: (A ++ G)) ++ F8).Nodup := by
                      have z := w7.nd
                      rw [← List.cons_append] at z
                      exact List.nodup_append.mpr ⟨(List.nodup_append.mp z).1, n8, fun a m b n e => by subst e; exact (List.nodup_append.mp z).2.2 a m a (i8 a n) rfl⟩
                    have t8 : Step Z2 Z7 H2 (upd H7 D (.lst (us ++ [v]))) ((D :: A) ++ F2) ((D :: (A ++ G)) ++ F8) := ((show Step Z2 Z7 H2 (upd H7 D (.lst (us ++ [v]))) ((D :: A) ++ F2) ((D :: (A ++ G)) ++ F7) from t7'.trans st8).sub nd8 fun a m => by
                      rcases List.mem_append.mp m with m | m
                      · exact List.mem_append_left _ m
                      · exact List.mem_append_right _ (i8 a m))
                    refine ⟨Z7, e6, F8, acc ++ [y6], A ++ G, ⟨D, _, _, rfl, upd_same, ?_, rfl⟩, by simp; omega, ?_, t8.wd, fd.keep sS2 wd2 t8, postE.later ?_ t8⟩
                    · exact Reps.append (Reps.wrote w7 qa (fun m => nD (List.mem_append_left _ (List.mem_append_left _ m)))) (Reps.one (Rep.wrote w7 r7 (fun m => nD (List.mem_append_left _ (List.mem_append_right _ m)))))
                    · refine wipeR ?_ (by rw [len4]) out4
                      refine RepS.frame (X := [D]) (fun b o' e nb => ?_) (fun b m => ?_) (fun _ z => z) re8 (fun b m n => ?_)
                      · rw [upd_ne (fun q => nb (by rw [q]; exact List.mem_singleton.mpr rfl))]
                        exact e
                      · rw [List.mem_singleton.mp m]
                        exact w7.mu D List.mem_cons_self
                      · rw [List.mem_singleton.mp n] at m
                        exact nD (List.mem_append_right _ (i8 D m))
                    · simp only at p2
                      cases el : lcG own tg cond elt (items.drop (i + 1)) (killL own e6) with
                      | bad => rw [el] at p2; exact p2.elim
                      | exc x9 e9 => rw [el] at p2; exact p2.elim
                      | ok ys e9 =>
                        rw [el] at p2
                        simp only [lcQ, List.append_assoc, List.singleton_append] at p2 ⊢
                        exact p2
              | _ => exact p2.elim
        · refine .inl ⟨fd.stop sS2 (by omega), ?_⟩
          rw [List.drop_eq_nil_of_le (by omega)] at p2
          simp only [lcG, lcQ, List.append_nil] at p2
          refine p2 Z2 H2 (.ref D) (D :: A) F2 (Step.refl wd2) rD ?_
          exact wipeR re2 (by rw [wipe_length]) fun i m => (wipe_out m).symm
    · exact h.elim
end
def cTrue : CE := fun env => .ok (.bl true) env
section
variable {c : Vc} {X : Cx}
theorem st_yes {σ : L2.St} {H : Hp} {Q : Bool → Hp → Prop} (h : tT c cTrue σ H Q) : tYes σ H Q := by
  obtain ⟨Z, env, F, a, b, e, h⟩ := h
  cases e
  exact h Z H F (Step.refl a.wd) a.rep
theorem _root_.L2.PTs.imp {X : Cx} {e : List Expr} {t t' : TT} (h : PTs X e t) (i : ∀ σ H Q, t' σ H Q → t σ H Q) : PTs X e t' := ⟨fun pins s σ H Q I q => h.run pins s σ H Q I (i σ H Q q)⟩
theorem sc_none : PTs X [] (tT c cTrue) := pts_nil.imp fun σ H Q h => st_yes h
theorem sc_one {e : Expr} {f : CE} (h : PT X e (tT c f)) : PTs X [e] (tT c f) := pts_one h
theorem takes_blk {s : Shared} {H : Hp} {scope : Scope} {ce : Env} {fp : List Addr} : Takes (X.blk s H scope ce fp) c.blk.W := fun _ _ ⟨_, _, _, _, _, _, _, _, _, _, _, _, _, _, _, _, w⟩ => w.elim
/-- the block's parts, in each of its contexts -/
structure Blk (X : Cx) (c : Vc) (scope : Scope) (tgE : Expr) (ifs : List Expr) (elt : Expr) (tg : Tr) (cond ce : CE) : Prop where
  run : ∀ Y : Cx, (∃ (s : Shared) (H : Hp) (C : Addr) (cl : List (Str × Addr)) (fp : List Addr), Y = X.blk s H scope (compEnvC scope cl C X.env) fp) → TrOk Y tgE tg ∧ PTs Y ifs (tT c.blk cond) ∧ PE Y elt (tV c.blk ce)
theorem se_lc {elt tgE iter : Expr} {ifs : List Expr} {scope : Scope} {own : List (Str × Nat)} {pos : Pos} {it : List D → RA} {tg : Tr} {cond ce : CE} (hc : X.calm = true) (hN : X.N.Nodup) (hK : X.K = c.K) (ho : ∀ i ∈ own.map (·.2), i ∉ c.ios) (ht : ∀ i ∈ tg.ids, i ∈ own.map (·.2)) (hi : PI X tgE iter (tIt c it)) (ok : BlkOk X.N X.env.scope scope own)
    (hb : Blk X c scope tgE ifs elt tg cond ce) (hs : ∀ x, foldedSetIterable iter X.env x = pure x := by intro _; rfl) : PE X (.ListComp elt [⟨tgE, iter, ifs, 0⟩] scope pos) (tV c (cLc (own.map (·.2)) it tg cond ce)) :=
  (pe_lc hc hN hi ok (fun s H C cl fp => (hb.run _ ⟨s, H, C, cl, fp, rfl⟩).1.pg (c := c) hN hc hK) (fun s H C cl fp => (hb.run _ ⟨s, H, C, cl, fp, rfl⟩).2.1) (fun s H C cl fp => (hb.run _ ⟨s, H, C, cl, fp, rfl⟩).2.2) hs).imp fun σ H Q h => lc_run ho ht h
/-- name = [..] -/
theorem ss_lc {i : Nat} {y : Str} {py : Pos} {elt tgE iter : Expr} {ifs : List Expr} {scope : Scope} {own : List (Str × Nat)} {pos spos : Pos} {it : List D → RA} {tg : Tr} {cond ce : CE} (hc : X.calm = true) (hN : X.N.Nodup) (hK : X.K = c.K) (hio : i ∉ c.ios) (ho : ∀ i ∈ own.map (·.2), i ∉ c.ios) (ht : ∀ i ∈ tg.ids, i ∈ own.map (·.2)) (hy : X.N[i]? = some y) (hyl : X.env.scope.names.lookup y = some .local)
    (hi : PI X tgE iter (tIt c it)) (ok : BlkOk X.N X.env.scope scope own) (hb : Blk X c scope tgE ifs elt tg cond ce)
    (hsw : swapsWith (.ListComp elt [⟨tgE, iter, ifs, 0⟩] scope pos) (some (.Name y py)) spos.line X.env = pure true) (hs : ∀ x, foldedSetIterable iter X.env x = pure x := by intro _; rfl) : PS X (.Assign [.Name y py] (.ListComp elt [⟨tgE, iter, ifs, 0⟩] scope pos) spos) (tS c (sAsg i (cLc (own.map (·.2)) it tg cond ce))) :=
  (ps_setLc hc hN hy hyl hsw hi ok (fun s H C cl fp => (hb.run _ ⟨s, H, C, cl, fp, rfl⟩).1.pg (c := c) hN hc hK) (fun s H C cl fp => (hb.run _ ⟨s, H, C, cl, fp, rfl⟩).2.1) (fun s H C cl fp => (hb.run _ ⟨s, H, C, cl, fp, rfl⟩).2.2) hs).imp fun D σ H h => by
    have q := asg_run hio h
    exact lc_run ho ht q
end
end VL

set_option Elab.async false
set_option maxRecDepth 100000
/-! VM: a def's context in one bundle, and the rules over it. -/
namespace VL
open PySem L2 PySem.Spec PyProof.Rows

def visB (sc : Scope) (x : Str) : Bool := match sc.names.lookup x with
  | some .local => true
  | some .cell => true
  | some .free => true
  | _ => false
def locB (sc : Scope) (x : Str) : Bool := match sc.names.lookup x with
  | some .local => true
  | some .cell => true
  | _ => false
def gloB (sc : Scope) (x : Str) : Bool := match sc.names.lookup x with
  | some .globalImplicit => true
  | _ => false
def atB (N : List Str) (q : Str → Bool) (i : Nat) : Bool := match N[i]? with
  | some x => q x
  | none => false
/-- what of a scope is asked -/
def scC (N : List Str) (sc : Scope) (vi lo : List Nat) (gl : List Str) : Bool :=
  (match sc.kind with | .function => true | _ => false) && decide N.Nodup && (N.all fun x => !(x == ("__debug__" : Str)) && !(x == ("__classdict__" : Str))) && vi.all (atB N (visB sc)) && lo.all (atB N (locB sc)) && gl.all (gloB sc) && gl.all (fun x => !(x == ("__debug__" : Str)))
structure Bd (X : Cx) (c : Vc) (k : Nat) (N : List Str) (sc : Scope) (ios : List Nat) (vi lo : List Nat) (gl bl : List Str) : Prop where
  hN : X.N = N
  hsc : X.env.scope = sc
  ok : scC N sc vi lo gl = true
  hc : X.calm = true
  hK : X.K = c.K
  hM : X.mg = c.mg
  hi : c.ios = ios
  tk : Takes X c.W
  hr : Room k X.A
  fn : ∀ i ∈ lo, ∀ x, N[i]? = some x → X.fn x = true ∨ sc.names.lookup x = some .local
  bl : ∀ x ∈ bl, X.mg x = none
section
variable {X : Cx} {c : Vc} {k : Nat} {N : List Str} {sc : Scope} {ios : List Nat} {vi lo : List Nat} {gl bl : List Str}
structure ScOk (N : List Str) (sc : Scope) (vi lo : List Nat) (gl : List Str) : Prop where
  kind : sc.kind = .function
  nd : N.Nodup
  db : ∀ x ∈ N, (x == ("__debug__" : Str)) = false ∧ (x == ("__classdict__" : Str)) = false
  vis : ∀ i ∈ vi, ∀ x, N[i]? = some x → Vis sc x
  loc : ∀ i ∈ lo, ∀ x, N[i]? = some x → Loc sc x
  glo : ∀ x ∈ gl, sc.names.lookup x = some .globalImplicit
  gdb : ∀ x ∈ gl, (x == ("__debug__" : Str)) = false
theorem visB_ok {x : Str} (h : visB sc x = true) : Vis sc x := by
  unfold visB at h
  split at h
  · exact .inl ‹_›
  · exact .inr (.inl ‹_›)
  · exact .inr (.inr ‹_›)
  · cases h
theorem locB_ok {x : Str} (h : locB sc x = true) : Loc sc x := by
  unfold locB at h
  split at h
  · exact .inl ‹_›
  · exact .inr ‹_›
  · cases h
theorem gloB_ok {x : Str} (h : gloB sc x = true) : sc.names.lookup x = some .globalImplicit := by
  unfold gloB at h
  cases e : sc.names.lookup x with
  | none => rw [e] at h; cases h
  | some q =>
    rw [e] at h
    cases q <;> first | rfl | cases h
theorem scOk (h : scC N sc vi lo gl = true) : ScOk N sc vi lo gl := by
  unfold scC at h
  simp only [Bool.and_eq_true, List.all_eq_true, decide_eq_true_eq] at h
  obtain ⟨⟨⟨⟨⟨⟨h1, h2⟩, h3⟩, h4⟩, h5⟩, h6⟩, h7⟩ := h
  refine ⟨?_, h2, fun x m => ?_, fun i m x e => ?_, fun i m x e => ?_, fun x m => gloB_ok (h6 x m), fun x m => by simpa using h7 x m⟩
  · split at h1
    · assumption
    · cases h1
  · have q := h3 x m
    simpa using q
  · have q := h4 i m
    unfold atB at q
    rw [e] at q
    exact visB_ok q
  · have q := h5 i m
    unfold atB at q
    rw [e] at q
    exact locB_ok q
theorem Bd.sk (B : Bd X c k N sc ios vi lo gl bl) : ScOk N sc vi lo gl := scOk B.ok
theorem Bd.nd (B : Bd X c k N sc ios vi lo gl bl) : X.N.Nodup := by rw [B.hN]; exact B.sk.nd
theorem mem_of_at {α : Type} {l : List α} {i : Nat} {x : α} (h : l[i]? = some x) : x ∈ l := List.mem_of_getElem? h
theorem Bd.gl' (B : Bd X c k N sc ios vi lo gl bl) {i : Nat} {x : Str} (h : gl[i]? = some x) : Gl X x := by
  show X.env.scope.names.lookup x = _
  rw [B.hsc]
  exact B.sk.glo x (mem_of_at h)
theorem Bd.gd (B : Bd X c k N sc ios vi lo gl bl) {i : Nat} {x : Str} (h : gl[i]? = some x) : (x == ("__debug__" : Str)) = false := B.sk.gdb x (mem_of_at h)
theorem Bd.bl' (B : Bd X c k N sc ios vi lo gl bl) {i : Nat} {x : Str} (h : bl[i]? = some x) : X.mg x = none := B.bl x (mem_of_at h)
theorem Bd.hu (B : Bd X c k N sc ios vi lo gl bl) : X.A.units + 65 < cLine := by have := B.hr.un; omega
theorem Bd.hu1 (B : Bd X c k N sc ios vi lo gl bl) : X.A.units + 1 < cLine := by have := B.hr.un; omega
theorem Bd.hu0 (B : Bd X c k N sc ios vi lo gl bl) : X.A.units < cLine := by have := B.hr.un; omega
theorem Bd.hu64 (B : Bd X c k N sc ios vi lo gl bl) : X.A.units + 64 < cLine := by have := B.hr.un; omega
end

/-! ### expressions -/
section
variable {X : Cx} {c : Vc} {k : Nat} {N : List Str} {sc : Scope} {ios : List Nat} {vi lo : List Nat} {gl bl : List Str}
variable {a b d e o : Expr} {es rest : List Expr} {fa fb fc fo ft f g : CE} {fs : List CE} {p pos apos tpos : Pos} {i j kk : Nat} {x : Str}
theorem Bd.raw (B : Bd X c k N sc ios vi lo gl bl) (hx : N[i]? = some x) (hv : i ∈ vi) : PE X (.Name x p) (tVar i) :=
  pe_var (by rw [B.hN]; exact hx) (by rw [B.hsc]; exact B.sk.vis i hv x hx) (B.sk.db x (mem_of_at hx)).1 (B.sk.db x (mem_of_at hx)).2
theorem Bd.var (B : Bd X c k N sc ios vi lo gl bl) (hx : N[i]? = some x) (hv : i ∈ vi) : PE X (.Name x p) (tV c (cVar i)) := (B.raw hx hv).imp fun σ H Q h => var_run h
theorem Bd.take (B : Bd X c k N sc ios vi lo gl bl) (hx : N[i]? = some x) (hv : i ∈ vi) : PE X (.Name x p) (tV c (cTake i)) := (B.raw hx hv).imp fun σ H Q h => take_run h
theorem e_int {z : Int} {j : Nat} : PE X (.Constant (.int z) j pos) (tV c (cK (.int z))) := pe_int.imp fun σ H Q h => k_run (c := c) (d := (.int z)) (v := (.int z)) (fun _ _ => ⟨rfl, rfl⟩) h
theorem e_bl {z : Bool} {j : Nat} : PE X (.Constant (.bool z) j pos) (tV c (cK (.bl z))) := pe_bl.imp fun σ H Q h => k_run (c := c) (d := (.bl z)) (v := (.bl z)) (fun _ _ => ⟨rfl, rfl⟩) h
theorem e_non {j : Nat} : PE X (.Constant .none j pos) (tV c (cK .non)) := pe_non.imp fun σ H Q h => k_run (c := c) (d := .non) (v := .non) (fun _ _ => ⟨rfl, rfl⟩) h
theorem e_str {z : Str} {j : Nat} : PE X (.Constant (.str z) j pos) (tV c (cK (.str z))) := pe_str.imp fun σ H Q h => k_run (c := c) (d := (.str z)) (v := (.str z)) (fun _ _ => ⟨rfl, rfl⟩) h
/-- a module's number -/
theorem Bd.gint (B : Bd X c k N sc ios vi lo gl bl) {z : Int} {mg' : Str → Option Value} (hx : gl[i]? = some x) (hq : X.mg = mg') (hm : ∃ t, mg' x = some (.int z t)) : PE X (.Name x p) (tV c (cK (.int z))) := by
  obtain ⟨t, hm⟩ := hm
  rw [← hq] at hm
  exact (pe_glob (B.gl' hx) hm (show RelV (.int z) _ from ⟨_, rfl⟩) (B.gd hx)).imp fun σ H Q h => k_run (c := c) (d := (.int z)) (v := (.int z)) (fun _ _ => ⟨rfl, rfl⟩) h
theorem Bd.gstr (B : Bd X c k N sc ios vi lo gl bl) {z : Str} {mg' : Str → Option Value} (hx : gl[i]? = some x) (hq : X.mg = mg') (hm : ∃ t, mg' x = some (.str z t)) : PE X (.Name x p) (tV c (cK (.str z))) := by
  obtain ⟨t, hm⟩ := hm
  rw [← hq] at hm
  exact (pe_glob (B.gl' hx) hm (show RelV (.str z) _ from ⟨_, rfl⟩) (B.gd hx)).imp fun σ H Q h => k_run (c := c) (d := (.str z)) (v := (.str z)) (fun _ _ => ⟨rfl, rfl⟩) h
theorem Bd.add (B : Bd X c k N sc ios vi lo gl bl) (ha : PE X a (tV c fa)) (hb : PE X b (tV c fb)) : PE X (.BinOp a .Add b pos) (tV c (cApp dAdd [fa, fb])) := se_op (by rw [← B.hK]; exact op_addAny) ok_add ha hb
theorem e_sub (ha : PE X a (tV c fa)) (hb : PE X b (tV c fb)) : PE X (.BinOp a .Sub b pos) (tV c (cApp dSub [fa, fb])) := se_op op_sub ok_sub ha hb
theorem e_mul (ha : PE X a (tV c fa)) (hb : PE X b (tV c fb)) : PE X (.BinOp a .Mult b pos) (tV c (cApp dMul [fa, fb])) := se_op op_mulAny ok_mul ha hb
theorem e_div (ha : PE X a (tV c fa)) (hb : PE X b (tV c fb)) : PE X (.BinOp a .FloorDiv b pos) (tV c (cApp dDiv [fa, fb])) := se_op op_fdivW ok_div ha hb
theorem e_mod (ha : PE X a (tV c fa)) (hb : PE X b (tV c fb)) : PE X (.BinOp a .Mod b pos) (tV c (cApp dMod [fa, fb])) := se_op op_modN ok_mod ha hb
theorem e_pow (ha : PE X a (tV c fa)) (hb : PE X b (tV c fb)) : PE X (.BinOp a .Pow b pos) (tV c (cApp dPow [fa, fb])) := se_op op_pow ok_pow ha hb
theorem e_neg (ha : PE X a (tV c fa)) : PE X (.UnaryOp .USub a pos) (tV c (cApp dNeg [fa])) := se_un un_neg ok_neg ha
/-! comparisons: as values, as tests -/
theorem Bd.eq (B : Bd X c k N sc ios vi lo gl bl) (ha : PE X a (tV c fa)) (hb : PE X b (tV c fb)) : PE X (.Compare a [.Eq] [b] pos) (tV c (cApp dEq [fa, fb])) := se_cmp (by rw [← B.hK]; exact op_eqD B.hu64) ok_eq ha hb (nomark b)
theorem Bd.ne (B : Bd X c k N sc ios vi lo gl bl) (ha : PE X a (tV c fa)) (hb : PE X b (tV c fb)) : PE X (.Compare a [.NotEq] [b] pos) (tV c (cApp dNe [fa, fb])) := se_cmp (by rw [← B.hK]; exact op_neD B.hu64) ok_ne ha hb (nomark b)
theorem Bd.lt (B : Bd X c k N sc ios vi lo gl bl) (ha : PE X a (tV c fa)) (hb : PE X b (tV c fb)) : PE X (.Compare a [.Lt] [b] pos) (tV c (cApp dLt [fa, fb])) := se_cmp (by rw [← B.hK]; exact op_ltAny B.hu0) ok_lt ha hb (nomark b)
theorem Bd.le (B : Bd X c k N sc ios vi lo gl bl) (ha : PE X a (tV c fa)) (hb : PE X b (tV c fb)) : PE X (.Compare a [.LtE] [b] pos) (tV c (cApp dLe [fa, fb])) := se_cmp op_le ok_le ha hb (nomark b)
theorem Bd.gt (B : Bd X c k N sc ios vi lo gl bl) (ha : PE X a (tV c fa)) (hb : PE X b (tV c fb)) : PE X (.Compare a [.Gt] [b] pos) (tV c (cApp dGt [fa, fb])) := se_cmp op_gt ok_gt ha hb (nomark b)
theorem Bd.ge (B : Bd X c k N sc ios vi lo gl bl) (ha : PE X a (tV c fa)) (hb : PE X b (tV c fb)) : PE X (.Compare a [.GtE] [b] pos) (tV c (cApp dGe [fa, fb])) := se_cmp op_ge ok_ge ha hb (nomark b)
theorem Bd.isin (B : Bd X c k N sc ios vi lo gl bl) (ha : PE X a (tV c fa)) (hb : PE X b (tV c fb)) (hm : behindInMarks .In b = false := by with_unfolding_all rfl) : PE X (.Compare a [.In] [b] pos) (tV c (cApp dIn [fa, fb])) := se_cmp (by rw [← B.hK]; exact op_inAny B.hu) ok_in ha hb hm
theorem Bd.notin (B : Bd X c k N sc ios vi lo gl bl) (ha : PE X a (tV c fa)) (hb : PE X b (tV c fb)) (hm : behindInMarks .NotIn b = false := by with_unfolding_all rfl) : PE X (.Compare a [.NotIn] [b] pos) (tV c (cApp dNotIn [fa, fb])) := se_cmp (by rw [← B.hK]; exact op_notInAny B.hu) ok_notIn ha hb hm
theorem Bd.is (B : Bd X c k N sc ios vi lo gl bl) (ha : PE X a (tV c fa)) (hb : PE X b (tV c fb)) : PE X (.Compare a [.Is] [b] pos) (tV c (cApp dIs [fa, fb])) := se_cmp op_isN ok_is ha hb (nomark b)
theorem Bd.isnot (B : Bd X c k N sc ios vi lo gl bl) (ha : PE X a (tV c fa)) (hb : PE X b (tV c fb)) : PE X (.Compare a [.IsNot] [b] pos) (tV c (cApp dIsNot [fa, fb])) := se_cmp op_notN ok_isNot ha hb (nomark b)
theorem Bd.teq (B : Bd X c k N sc ios vi lo gl bl) (ha : PE X a (tV c fa)) (hb : PE X b (tV c fb)) : PT X (.Compare a [.Eq] [b] pos) (tT c (cApp dEq [fa, fb])) := st_cmp (by rw [← B.hK]; exact op_eqD B.hu64) ok_eq ha hb (nomark b)
theorem Bd.tne (B : Bd X c k N sc ios vi lo gl bl) (ha : PE X a (tV c fa)) (hb : PE X b (tV c fb)) : PT X (.Compare a [.NotEq] [b] pos) (tT c (cApp dNe [fa, fb])) := st_cmp (by rw [← B.hK]; exact op_neD B.hu64) ok_ne ha hb (nomark b)
theorem Bd.tlt (B : Bd X c k N sc ios vi lo gl bl) (ha : PE X a (tV c fa)) (hb : PE X b (tV c fb)) : PT X (.Compare a [.Lt] [b] pos) (tT c (cApp dLt [fa, fb])) := st_cmp (by rw [← B.hK]; exact op_ltAny B.hu0) ok_lt ha hb (nomark b)
theorem Bd.tle (B : Bd X c k N sc ios vi lo gl bl) (ha : PE X a (tV c fa)) (hb : PE X b (tV c fb)) : PT X (.Compare a [.LtE] [b] pos) (tT c (cApp dLe [fa, fb])) := st_cmp op_le ok_le ha hb (nomark b)
theorem Bd.tgt (B : Bd X c k N sc ios vi lo gl bl) (ha : PE X a (tV c fa)) (hb : PE X b (tV c fb)) : PT X (.Compare a [.Gt] [b] pos) (tT c (cApp dGt [fa, fb])) := st_cmp op_gt ok_gt ha hb (nomark b)
theorem Bd.tge (B : Bd X c k N sc ios vi lo gl bl) (ha : PE X a (tV c fa)) (hb : PE X b (tV c fb)) : PT X (.Compare a [.GtE] [b] pos) (tT c (cApp dGe [fa, fb])) := st_cmp op_ge ok_ge ha hb (nomark b)
theorem Bd.tin (B : Bd X c k N sc ios vi lo gl bl) (ha : PE X a (tV c fa)) (hb : PE X b (tV c fb)) (hm : behindInMarks .In b = false := by with_unfolding_all rfl) : PT X (.Compare a [.In] [b] pos) (tT c (cApp dIn [fa, fb])) := st_cmp (by rw [← B.hK]; exact op_inAny B.hu) ok_in ha hb hm
theorem Bd.tnotin (B : Bd X c k N sc ios vi lo gl bl) (ha : PE X a (tV c fa)) (hb : PE X b (tV c fb)) (hm : behindInMarks .NotIn b = false := by with_unfolding_all rfl) : PT X (.Compare a [.NotIn] [b] pos) (tT c (cApp dNotIn [fa, fb])) := st_cmp (by rw [← B.hK]; exact op_notInAny B.hu) ok_notIn ha hb hm
theorem Bd.tis (B : Bd X c k N sc ios vi lo gl bl) (ha : PE X a (tV c fa)) (hb : PE X b (tV c fb)) : PT X (.Compare a [.Is] [b] pos) (tT c (cApp dIs [fa, fb])) := st_cmp op_isN ok_is ha hb (nomark b)
theorem Bd.tisnot (B : Bd X c k N sc ios vi lo gl bl) (ha : PE X a (tV c fa)) (hb : PE X b (tV c fb)) : PT X (.Compare a [.IsNot] [b] pos) (tT c (cApp dIsNot [fa, fb])) := st_cmp op_notN ok_isNot ha hb (nomark b)
/-! chains of two, of whole numbers -/
theorem e_ltlt (ha : PE X a (tV c fa)) (hb : PE X b (tV c fb)) (hd : PE X d (tV c fc)) (hm : lastMarks [.Lt, .Lt] [b, d] = false := by rfl) : PE X (.Compare a [.Lt, .Lt] [b, d] pos) (tV c (cChain dLt dLt fa fb fc)) := se_chain (f := dLt) (f' := dLt) op_lt op_lt (fun _ _ => rfl) (fun _ _ => rfl) ha hb hd hm
theorem e_lele (ha : PE X a (tV c fa)) (hb : PE X b (tV c fb)) (hd : PE X d (tV c fc)) (hm : lastMarks [.LtE, .LtE] [b, d] = false := by rfl) : PE X (.Compare a [.LtE, .LtE] [b, d] pos) (tV c (cChain dLe dLe fa fb fc)) := se_chain (f := dLe) (f' := dLe) op_le op_le (fun _ _ => rfl) (fun _ _ => rfl) ha hb hd hm
theorem e_lelt (ha : PE X a (tV c fa)) (hb : PE X b (tV c fb)) (hd : PE X d (tV c fc)) (hm : lastMarks [.LtE, .Lt] [b, d] = false := by rfl) : PE X (.Compare a [.LtE, .Lt] [b, d] pos) (tV c (cChain dLe dLt fa fb fc)) := se_chain (f := dLe) (f' := dLt) op_le op_lt (fun _ _ => rfl) (fun _ _ => rfl) ha hb hd hm
theorem e_ltle (ha : PE X a (tV c fa)) (hb : PE X b (tV c fb)) (hd : PE X d (tV c fc)) (hm : lastMarks [.Lt, .LtE] [b, d] = false := by rfl) : PE X (.Compare a [.Lt, .LtE] [b, d] pos) (tV c (cChain dLt dLe fa fb fc)) := se_chain (f := dLt) (f' := dLe) op_lt op_le (fun _ _ => rfl) (fun _ _ => rfl) ha hb hd hm
theorem t_ltlt (ha : PE X a (tV c fa)) (hb : PE X b (tV c fb)) (hd : PE X d (tV c fc)) (hm : lastMarks [.Lt, .Lt] [b, d] = false := by rfl) : PT X (.Compare a [.Lt, .Lt] [b, d] pos) (tT c (cChain dLt dLt fa fb fc)) := st_chain (f := dLt) (f' := dLt) op_lt op_lt (fun _ _ => rfl) (fun _ _ => rfl) ha hb hd hm
theorem t_lele (ha : PE X a (tV c fa)) (hb : PE X b (tV c fb)) (hd : PE X d (tV c fc)) (hm : lastMarks [.LtE, .LtE] [b, d] = false := by rfl) : PT X (.Compare a [.LtE, .LtE] [b, d] pos) (tT c (cChain dLe dLe fa fb fc)) := st_chain (f := dLe) (f' := dLe) op_le op_le (fun _ _ => rfl) (fun _ _ => rfl) ha hb hd hm
theorem t_lelt (ha : PE X a (tV c fa)) (hb : PE X b (tV c fb)) (hd : PE X d (tV c fc)) (hm : lastMarks [.LtE, .Lt] [b, d] = false := by rfl) : PT X (.Compare a [.LtE, .Lt] [b, d] pos) (tT c (cChain dLe dLt fa fb fc)) := st_chain (f := dLe) (f' := dLt) op_le op_lt (fun _ _ => rfl) (fun _ _ => rfl) ha hb hd hm
theorem t_ltle (ha : PE X a (tV c fa)) (hb : PE X b (tV c fb)) (hd : PE X d (tV c fc)) (hm : lastMarks [.Lt, .LtE] [b, d] = false := by rfl) : PT X (.Compare a [.Lt, .LtE] [b, d] pos) (tT c (cChain dLt dLe fa fb fc)) := st_chain (f := dLt) (f' := dLe) op_lt op_le (fun _ _ => rfl) (fun _ _ => rfl) ha hb hd hm
/-! and, or, not, if -/
theorem e_one {op : BoolOp} (ha : PE X a (tV c fa)) : PE X (.BoolOp op [a] pos) (tV c fa) := pe_one ha
theorem e_and (ha : PE X a (tV c fa)) (hb : PE X (.BoolOp .And (b :: rest) pos) (tV c fb)) : PE X (.BoolOp .And (a :: b :: rest) pos) (tV c (cAnd fa fb)) := (pe_and ha hb).imp fun σ H Q h => and_run h
theorem e_or (ha : PE X a (tV c fa)) (hb : PE X (.BoolOp .Or (b :: rest) pos) (tV c fb)) : PE X (.BoolOp .Or (a :: b :: rest) pos) (tV c (cOr fa fb)) := (pe_or ha hb).imp fun σ H Q h => or_run h
theorem e_not (ha : PE X a (tV c fa)) : PE X (.UnaryOp .Not a pos) (tV c (cNot fa)) := (pe_not ha).imp fun σ H Q h => not_run h
theorem e_if (ht : PT X a (tT c ft)) (ha : PE X b (tV c fa)) (hb : PE X d (tV c fb)) : PE X (.IfExp a b d pos) (tV c (cIf ft fa fb)) := (pe_ifExp ht ha hb).imp fun σ H Q h => if_run h
theorem t_val (h : PE X e (tV c f)) (he : ∀ whole, isTrue e X.env whole = (do let v ← whole; standAt e.pos; holding [v] (truthy v)) := by intro _; rfl) : PT X e (tT c f) := (pt_val h he).imp fun σ H Q h => tT.of_tV h
theorem t_not (ha : PT X a (tT c fa)) : PT X (.UnaryOp .Not a pos) (tT c (cNot fa)) := (pt_not ha).imp fun σ H Q h => not_runT h
/-- and, or as a test -/
structure PWt (X : Cx) (c : Vc) (e : Expr) (f : CE) : Prop where
  w : PW X e (tT c f)
theorem w_and1 (ha : PT X a (tT c fa)) : PWt X c (.BoolOp .And [a] pos) fa := ⟨pw_and1 ha⟩
theorem w_or1 (ha : PT X a (tT c fa)) : PWt X c (.BoolOp .Or [a] pos) fa := ⟨pw_or1 ha⟩
theorem _root_.L2.PW.imp {X : Cx} {e : Expr} {t t' : TT} (h : PW X e t) (i : ∀ σ H Q, t' σ H Q → t σ H Q) : PW X e t' := ⟨fun wh pins s σ H Q I q => h.run wh pins s σ H Q I (i σ H Q q)⟩
theorem w_and (ha : PT X a (tT c fa)) (hb : PWt X c (.BoolOp .And (b :: rest) pos) fb) : PWt X c (.BoolOp .And (a :: b :: rest) pos) (cAnd fa fb) := ⟨(pw_and ha hb.w).imp fun σ H Q h => and_runT h⟩
theorem w_or (ha : PT X a (tT c fa)) (hb : PWt X c (.BoolOp .Or (b :: rest) pos) fb) : PWt X c (.BoolOp .Or (a :: b :: rest) pos) (cOr fa fb) := ⟨(pw_or ha hb.w).imp fun σ H Q h => or_runT h⟩
theorem t_w (h : PWt X c e f) : PT X e (tT c f) := ⟨fun pins s σ H Q I q => h.w.run _ pins s σ H Q I q⟩
end
end VL

set_option Elab.async false
set_option maxRecDepth 100000
/-! VN: more built-in functions: sorted of dicts; max, min of rows. -/
namespace VL
open PySem L2 PySem.Spec PyProof.Rows

/-! ### sorted(d) -/
def kD : Key → D
  | .inl i => .int i
  | .inr z => .str z
theorem kD_rep {K : PySem.W.Frag} {mg : Str → Option Value} {Z : Addr → Prop} {H : Hp} (k : Key) : Rep K mg Z H (kD k) (kV k) [] := by
  cases k <;> exact ⟨rfl, rfl⟩
theorem kD_reps {K : PySem.W.Frag} {mg : Str → Option Value} {Z : Addr → Prop} {H : Hp} : ∀ ks : List Key, Reps K mg Z H (ks.map kD) (ks.map kV) []
  | [] => ⟨rfl, rfl⟩
  | k :: ks => ⟨kV k, _, [], [], rfl, kD_rep k, kD_reps ks, rfl⟩
mutual
theorem reads_there {h : Heap} : ∀ {v : Value} {d : PyData} {as : List Addr}, Reads h v d as → ∀ a ∈ as, a < h.objs.size
  | _, _, _, .none, a, m => by cases m
  | _, _, _, .bool _, a, m => by cases m
  | _, _, _, .int _ _, a, m => by cases m
  | _, _, _, .str _ _, a, m => by cases m
  | _, _, _, .list e _ _ r, a, m => by
    rcases List.mem_cons.mp m with rfl | m
    · exact Heap.lt_size e
    · exact readsAll_there r a m
  | _, _, _, .tuple e _ _ r, a, m => readsAll_there r a m
  | _, _, _, .dict e _ _ r q, a, m => by
    rcases List.mem_append.mp m with m | m
    · rcases List.mem_cons.mp m with rfl | m
      · exact Heap.lt_size e
      · exact readsAll_there r a m
    · exact readsAll_there q a m
theorem readsAll_there {h : Heap} : ∀ {vs : List Value} {ds : List PyData} {as : List Addr}, ReadsAll h vs ds as → ∀ a ∈ as, a < h.objs.size
  | _, _, _, .nil, a, m => by cases m
  | _, _, _, .cons r q, a, m => by
    rcases List.mem_append.mp m with m | m
    · exact reads_there r a m
    · exact readsAll_there q a m
end
section
variable {X : Cx} {pins : List (Addr × Obj)} {σ : L2.St} {H : Hp} {s : Shared} {Q : VK}
theorem sort_src {a r : Addr} {n : Nat} {T : String} {P : Nat → Value → Prop} {OK : Heap → Prop} (I : Inv X pins σ H s) (hc : X.calm = true) (hu : X.A.units + 64 < cLine) (src : PySem.W.KdlSrc X.prog X.w T r a n P OK) (hok : OK s.heap) (hn : n ≤ sizeLine) {ws : List V} {xs : List D}
    (hw : ∀ acc : Array Value, ItemsOf P acc n → Vals ws acc.toList) (hd : DpAll X.K H ws (datL xs)) (hs : sortable xs = true) (q : ∀ p, H p = none → Q (.ref p) (upd H p (.lst (srtV ws xs)))) :
    wpAny (model X.prog X.w) X.A (call (.builtin "sorted") [.ref r]) (EP X pins σ Q) X.xe s := by
  obtain ⟨h1, h2, h3, h4, h5⟩ := sortable_spec hs
  have hl : ws.length = xs.length := by rw [(DpAll.length hd), datL_map, List.length_map]
  have ez : (ws.zip xs).map (fun p => p.2.dat) = xs.map D.dat := by
    have e : (ws.zip xs).map (·.2) = xs := by rw [List.map_snd_zip (Nat.le_of_eq hl.symm)]
    conv => rhs; rw [← e]
    rw [List.map_map]
    rfl
  refine Calls.call_function_entry PyProof.Rows.kind_sorted PyProof.Rows.plain_sorted PyProof.Rows.entry_sorted (PyProof.Rows.args_sorted1 _) ?_
  unfold Builtin.«sorted»
  refine wpAny_bind (m := checkCount "sorted" 1 1 _) (wpAny_pure ?_)
  refine wpAny_bind (PySem.W.kdu_collect (A := X.A.in1) src (I.ok.hd hc) hok hn fun h' tk acc hk hacc => ?_)
  have rv : Vals ws acc.toList := hw acc hacc
  have hal : acc.toList.length = ws.length := rv.length.symm
  have hz : acc.toList.length ≤ sizeLine := by rw [hal, hl]; exact h3
  have I1 : Inv X pins σ H { s with heap := h', toks := tk } := I.kept hk
  refine wpAny_bind (wpAny_newList ?_ hz)
  have hoL : (h'.push (seqObj "list" acc.toList.toArray 0)).get? h'.objs.size = some (seqObj "list" acc.toList.toArray 0) := Heap.get?_push_size _ rfl
  show wpAny _ _ _ _ _ { s with heap := h'.push (seqObj "list" acc.toList.toArray 0), toks := tk }
  have er0 := each_reads I1 xs rv hd
  have er : PySem.W.EachIs (fun (u : Value) (p : V × D) => ∃ as, Reads (h'.push (seqObj "list" acc.toList.toArray 0)) u p.2.dat as ∧ h'.objs.size ∉ as) acc.toList (ws.zip xs) := er0.mono fun v b ⟨as, rr⟩ =>
    ⟨as, PyProof.Rows.Reads.keeps (fun b o e => Heap.get?_push_of_some _ e) rr, fun m => Nat.lt_irrefl _ (reads_there rr _ m)⟩
  refine wpAny_bind (wpAny_holding (wpAny_mono (PySem.W.list_sort_data (enc := fun p : V × D => p.2.dat) (bs := ws.zip xs) (vs := acc.toList) (s := { s with heap := h'.push (seqObj "list" acc.toList.toArray 0), toks := tk }) hoL (each_rel xs rv hl) er (by rw [ez]; exact h4) (by rw [ez]; exact h5) (by rw [List.length_zip]; omega) (fun p hp => ?_) fun out ho eo => ?_) (fun _ s' x => x) fun _ _ e => e))
  · have hx : p.2 ∈ xs := (List.of_mem_zip hp).2
    have h6 := (okD_dat _ _ (okDL_mem h1 _ hx)).2
    show X.A.units + 1 + 1 + _ < _
    omega
  · have hv := srt_out eo
    obtain ⟨ep, he⟩ := PyProof.Rows.sortedHeap_at (vs := acc.toList) (out := out.toArray) hoL
    refine wpAny_pure ⟨_, rfl, .ref h'.objs.size, upd H h'.objs.size (.lst (srtV ws xs)), I1.laid (t' := tk) (fun b u e => ?_) (Nat.le_refl _) ⟨?_, out, ep, hv, he⟩, rfl, q _ (I1.hok.fresh (Nat.le_refl _))⟩
    · have hb : b < h'.objs.size := Heap.lt_size e
      rw [PyProof.Rows.sortedHeap_old (Nat.ne_of_lt hb) (by rw [size_push']; exact Nat.lt_succ_of_lt hb)]
      exact Heap.get?_push_of_some _ e
    · have e1 : (srtV ws xs).length = ws.length := by
        unfold srtV
        rw [List.length_map, List.length_mergeSort, List.length_zip]
        omega
      rw [e1, ← hal]
      exact hz
/-- a dict's keys as rows -/
theorem vals_keysT {H : Hp} {kvs : List (List Key × V)} {ks : List (List Key × Addr × Value)} (pr : KT H kvs ks) {es : Array DictEntry} (he : es.toList = ks.map (entryOfKey (tupleKind (mixKind X.prog X.w)))) {acc : Array Value} (it : ItemsOf (fun i v => ∃ en : DictEntry, es[i]? = some en ∧ v = en.key) acc es.size) :
    Vals ((ks.map fun x => x.2.1).map V.ref) acc.toList := by
  have l1 : es.size = ks.length := size_of_entries he
  have ea : acc.toList = ks.map fun x => Value.ref x.2.1 := by
    have hl : acc.toList.length = ks.length := by rw [Array.length_toList, it.1]; exact l1
    apply List.ext_getElem?
    intro j
    rw [List.getElem?_map]
    cases hj : acc.toList[j]? with
    | none =>
      have h1 := List.getElem?_eq_none_iff.mp hj
      rw [List.getElem?_eq_none (by omega)]
      all_goals rfl
    | some v =>
      obtain ⟨en, hen, hv⟩ := it.2 j v (by rw [← Array.getElem?_toList]; exact hj)
      have qe := entry_at he j
      rw [hen] at qe
      cases hb : ks[j]? with
      | none =>
        rw [hb] at qe
        exact nomatch (show some en = none from qe)
      | some b =>
        rw [hb] at qe
        have e2 : en = entryOfKey (tupleKind (mixKind X.prog X.w)) b := Option.some.inj qe
        rw [hv, e2]
        all_goals rfl
  have eb : acc.toList = (ks.map fun x => x.2.1).map Value.ref := by rw [ea, List.map_map]; all_goals rfl
  rw [eb]
  exact vals_refs _
theorem keysT_reps {K : PySem.W.Frag} {mg : Str → Option Value} {Z : Addr → Prop} {H : Hp} {kvs : List (List Key × V)} {bs : List Addr} (h : IsKeys H kvs bs) : Reps K mg Z H (kvs.map fun p => D.tup (p.1.map kD)) (bs.map V.ref) [] := by
  unfold IsKeys at h
  induction h with
  | nil => exact ⟨rfl, rfl⟩
  | cons h t ih => exact ⟨_, _, [], [], rfl, ⟨_, _, rfl, h, kD_reps _⟩, ih, rfl⟩
def rSortDT (K : PySem.W.Frag) (mg : Str → Option Value) : List V → Hp → VK → Prop := fun xs H Q => ∃ d kvs, xs = [V.ref d] ∧ Rd H d (.dT kvs) ∧ sortable (kvs.map fun p => D.tup (p.1.map kD)) = true ∧
  ∀ p ws, H p = none → (∀ Z, Reps K mg Z H (kvs.map fun p => D.tup (p.1.map kD)) ws []) → Q (.ref p) (upd H p (.lst (srtV ws (kvs.map fun p => D.tup (p.1.map kD)))))
theorem cr_sortDT (hc : X.calm = true) (hu : X.A.units + 64 < cLine) : CallR X (.builtin "sorted") (rSortDT X.K X.mg) := by
  intro pins s σ H vs us Q I r h
  obtain ⟨d, kvs, rfl, hd, hs, q⟩ := h
  obtain ⟨u, rfl, rx⟩ := r.one
  cases rx
  obtain ⟨z, hsm, ks, pr, o, es, ep, ho, hx, hdt, he, hn⟩ := (show ObjOk X.prog X.w H s.heap d (.dT kvs) from hd.ok I.hok)
  have l1 : es.size = ks.length := size_of_entries he
  have l2 : kvs.length = ks.length := Paired.length pr
  have kr : ∀ Z, Reps X.K X.mg Z H (kvs.map fun p => D.tup (p.1.map kD)) ((ks.map fun x => x.2.1).map V.ref) [] := fun Z => keysT_reps (isKeys_of pr)
  exact sort_src I hc hu (kdl_raw hsm hx hdt) ho (by omega) (fun acc it => vals_keysT pr he it) (Reps.dp _ 60 _ _ (kr (fun _ => True)) (sortable_spec hs).1) hs fun p hp => q p _ hp kr
def rSortDK (K : PySem.W.Frag) : List V → Hp → VK → Prop := fun xs H Q => ∃ d kvs, xs = [V.ref d] ∧ Rd H d (.dK kvs) ∧ sortable (kvs.map fun p => kD p.1) = true ∧
  ∀ p, H p = none → Q (.ref p) (upd H p (.lst (srtV (kvs.map fun p => kV p.1) (kvs.map fun p => kD p.1))))
theorem keysK_reps {K : PySem.W.Frag} {mg : Str → Option Value} {Z : Addr → Prop} {H : Hp} : ∀ kvs : List (Key × V), Reps K mg Z H (kvs.map fun p => kD p.1) (kvs.map fun p => kV p.1) []
  | [] => ⟨rfl, rfl⟩
  | p :: kvs => ⟨_, _, [], [], rfl, kD_rep p.1, keysK_reps kvs, rfl⟩
theorem cr_sortDK (hc : X.calm = true) (hu : X.A.units + 64 < cLine) : CallR X (.builtin "sorted") (rSortDK X.K) := by
  intro pins s σ H vs us Q I r h
  obtain ⟨d, kvs, rfl, hd, hs, q⟩ := h
  obtain ⟨u, rfl, rx⟩ := r.one
  cases rx
  obtain ⟨z, lo, vs, rel, dd⟩ := dk_rd I.hok hd
  obtain ⟨ep, hat⟩ := dd.dictAt
  have ek : (kvs.map fun kv => kV kv.1) = vs.map fun p => kV p.1 := by
    have e := congrArg (List.map kV) rel.keys
    rw [List.map_map, List.map_map] at e
    exact e
  have hv : ∀ acc : Array Value, ItemsOf (fun i v => ∃ k x, vs[i]? = some (k, x) ∧ (mixKind X.prog X.w).is k v = true) acc vs.length → Vals (kvs.map fun kv => kV kv.1) acc.toList := fun acc hacc => by
    rw [ek]
    exact keys_at (by rw [Array.length_toList]; exact hacc.1) fun j v e => hacc.2 j v (by rw [← Array.getElem?_toList]; exact e)
  exact sort_src I hc hu (PySem.W.kdl_dict (knd := mixKind X.prog X.w) (kvs := vs) (ep := ep) lo) hat (by rw [← rel.length]; exact z) hv (Reps.dp (mg := X.mg) (Z := fun _ => True) _ 60 _ _ (keysK_reps kvs) (sortable_spec hs).1) hs q
end
/-- sorted of a list or a dict -/
def dSortAny : List D → Option D
  | [.lst o xs] => dSorted [.lst o xs]
  | [.dt _ ks _] => if sortable (ks.map fun k => D.tup (k.map kD)) then some (.lst true ((ks.map fun k => D.tup (k.map kD)).mergeSort sLe)) else none
  | [.dk _ ks _] => if sortable (ks.map kD) then some (.lst true ((ks.map kD).mergeSort sLe)) else none
  | _ => none
def rSortAny (K : PySem.W.Frag) (mg : Str → Option Value) : List V → Hp → VK → Prop := fun xs H Q => (rSortD K xs H Q ∨ rSortDT K mg xs H Q) ∨ rSortDK K xs H Q
theorem cr_sortAny {X : Cx} (hc : X.calm = true) (hu : X.A.units + 64 < cLine) : CallR X (.builtin "sorted") (rSortAny X.K X.mg) := CallR.or (CallR.or (cr_sortD hu) (cr_sortDT hc hu)) (cr_sortDK hc hu)
theorem zip_keys {κ α : Type} {ks : List κ} {vs : List α} (h : ks.length = vs.length) {β : Type} (g : κ → β) : ((ks.zip vs).map fun p => g p.1) = ks.map g := by
  have e : ((ks.zip vs).map fun p => g p.1) = ((ks.zip vs).map (·.1)).map g := by rw [List.map_map]; rfl
  rw [e, List.map_fst_zip (Nat.le_of_eq h)]
theorem ok_sortAny {c : Vc} : OkF c (rSortAny c.K c.mg) dSortAny := by
  intro Z H ds vs G z Q e r w h
  unfold dSortAny at e
  split at e
  · exact .inl (.inl (ok_sorted Z H _ vs G z Q e r w h))
  · split at e
    · rename_i hs
      cases e
      obtain ⟨v, rfl, r1⟩ := r.one'
      obtain ⟨a, us, G1, rfl, s1, ok, q1, l1⟩ := r1.dt
      refine .inl (.inr ⟨a, _, rfl, s1, ?_, fun p ws hp hw => ?_⟩)
      · rw [zip_keys ok.len (fun k : List Key => D.tup (k.map kD))]; exact hs
      · rw [zip_keys ok.len (fun k : List Key => D.tup (k.map kD))] at hw ⊢
        exact h Z _ _ _ (Step.fresh w (List.nil_sublist _) hp mut_lst) ⟨p, _, [], rfl, upd_same, (reps_srt (hw Z)).new hp, rfl⟩
    · cases e
  · split at e
    · rename_i ks xs hs
      cases e
      obtain ⟨v, rfl, r1⟩ := r.one'
      obtain ⟨a, us, G1, rfl, s1, ok, q1, l1⟩ := r1.dk
      refine .inr ⟨a, _, rfl, s1, ?_, fun p hp => ?_⟩
      · rw [zip_keys ok.len kD]; exact hs
      · have hw := keysK_reps (K := c.K) (mg := c.mg) (Z := Z) (H := H) (ks.zip us)
        rw [zip_keys ok.len kD] at hw ⊢
        exact h Z _ _ _ (Step.fresh w (List.nil_sublist _) hp mut_lst) ⟨p, _, [], rfl, upd_same, (reps_srt hw).new hp, rfl⟩
    · cases e
  · cases e

/-! ### max, min of a row of whole numbers -/
def maxI : List Int → Option Int
  | [] => none
  | x :: xs => some (xs.foldl max x)
def minI : List Int → Option Int
  | [] => none
  | x :: xs => some (xs.foldl min x)
theorem foldl_max : ∀ (xs : List Int) (x : Int), (xs.foldl max x) ∈ x :: xs ∧ ∀ y ∈ x :: xs, y ≤ xs.foldl max x
  | [], x => ⟨List.mem_cons_self, fun y m => by rw [List.mem_singleton.mp m]; exact Int.le_refl _⟩
  | z :: xs, x => by
    rw [List.foldl_cons]
    obtain ⟨h1, h2⟩ := foldl_max xs (max x z)
    have h3 := h2 _ List.mem_cons_self
    refine ⟨?_, fun y m => ?_⟩
    · rcases List.mem_cons.mp h1 with e | m
      · rw [e]
        have : max x z = x ∨ max x z = z := by omega
        rcases this with e | e <;> rw [e]
        · exact List.mem_cons_self
        · exact List.mem_cons_of_mem _ List.mem_cons_self
      · exact List.mem_cons_of_mem _ (List.mem_cons_of_mem _ m)
    · rcases List.mem_cons.mp m with e | m
      · omega
      · rcases List.mem_cons.mp m with e | m
        · omega
        · exact h2 y (List.mem_cons_of_mem _ m)
theorem foldl_min : ∀ (xs : List Int) (x : Int), (xs.foldl min x) ∈ x :: xs ∧ ∀ y ∈ x :: xs, xs.foldl min x ≤ y
  | [], x => ⟨List.mem_cons_self, fun y m => by rw [List.mem_singleton.mp m]; exact Int.le_refl _⟩
  | z :: xs, x => by
    rw [List.foldl_cons]
    obtain ⟨h1, h2⟩ := foldl_min xs (min x z)
    have h3 := h2 _ List.mem_cons_self
    refine ⟨?_, fun y m => ?_⟩
    · rcases List.mem_cons.mp h1 with e | m
      · rw [e]
        have : min x z = x ∨ min x z = z := by omega
        rcases this with e | e <;> rw [e]
        · exact List.mem_cons_self
        · exact List.mem_cons_of_mem _ List.mem_cons_self
      · exact List.mem_cons_of_mem _ (List.mem_cons_of_mem _ m)
    · rcases List.mem_cons.mp m with e | m
      · omega
      · rcases List.mem_cons.mp m with e | m
        · omega
        · exact h2 y (List.mem_cons_of_mem _ m)
theorem maxI_spec {ns : List Int} {m : Int} (h : maxI ns = some m) : m ∈ ns ∧ ∀ y ∈ ns, y ≤ m := by
  cases ns with
  | nil => cases h
  | cons x xs => cases h; exact foldl_max xs x
theorem minI_spec {ns : List Int} {m : Int} (h : minI ns = some m) : m ∈ ns ∧ ∀ y ∈ ns, m ≤ y := by
  cases ns with
  | nil => cases h
  | cons x xs => cases h; exact foldl_min xs x
def rMaxT (K : PySem.W.Frag) : List V → Hp → VK → Prop := fun vs H Q => ∃ (a : Addr) (x : Int) (xs : List Int), vs = [V.ref a] ∧ SqT K H a ((x :: xs).map V.int) ∧ Q (.int (xs.foldl max x)) H
def rMinT (K : PySem.W.Frag) : List V → Hp → VK → Prop := fun vs H Q => ∃ (a : Addr) (x : Int) (xs : List Int), vs = [V.ref a] ∧ SqT K H a ((x :: xs).map V.int) ∧ Q (.int (xs.foldl min x)) H
theorem readsI {h : Heap} : ∀ {ns : List Int} {us : List Value}, Vals (ns.map V.int) us → ReadsAll h us (ns.map PyData.int) []
  | [], us, r => by cases r; exact .nil
  | n :: ns, us, r => by
    cases r with
    | cons r rr =>
      obtain ⟨t, rfl⟩ := r
      exact .cons (.int _ _) (readsI rr)
theorem alikeI (ns : List Int) : PySem.W.AlikeAll (ns.map PyData.int) := by
  refine ⟨fun x hx y hy => ?_, fun x hx => ?_⟩
  · obtain ⟨a, _, rfl⟩ := List.mem_map.mp hx
    obtain ⟨b, _, rfl⟩ := List.mem_map.mp hy
    simp [PySem.W.alike]
  · obtain ⟨a, _, rfl⟩ := List.mem_map.mp hx
    intro e; cases e
theorem depthI : ∀ ns : List Int, PyData.depthAll (ns.map PyData.int) = 0
  | [] => rfl
  | n :: ns => by simp [PyData.depthAll, PyData.depth, depthI ns]
section
variable {X : Cx}
theorem cr_maxT (hc : X.calm = true) (hu : X.A.units + 64 < cLine) : CallR X (.builtin "max") (rMaxT X.K) := by
  intro pins s σ H vs us Q I r h
  obtain ⟨a, x, xs, rfl, hq, q⟩ := h
  obtain ⟨u, rfl, rx⟩ := r.one
  cases rx
  obtain ⟨its, rv, pt, hz⟩ := I.tuple hq
  refine PySem.W.max_tuple_data (x := .int x) (xs := xs.map .int) (I.ok.hd hc) pt (by rw [List.toList_toArray]; exact readsI (ns := x :: xs) rv) (alikeI (x :: xs)) (by rw [show (PyData.int x :: xs.map PyData.int) = (x :: xs).map PyData.int from rfl, depthI]; omega) fun i v h' tk bs hv hr hk => ?_
  rw [PySem.W.maxD_ints] at hr
  cases hr with
  | int _ t => exact ⟨.int _, H, I.kept (t' := tk) hk, ⟨t, rfl⟩, q⟩
theorem cr_minT (hc : X.calm = true) (hu : X.A.units + 64 < cLine) : CallR X (.builtin "min") (rMinT X.K) := by
  intro pins s σ H vs us Q I r h
  obtain ⟨a, x, xs, rfl, hq, q⟩ := h
  obtain ⟨u, rfl, rx⟩ := r.one
  cases rx
  obtain ⟨its, rv, pt, hz⟩ := I.tuple hq
  refine PySem.W.min_tuple_data (x := .int x) (xs := xs.map .int) (I.ok.hd hc) pt (by rw [List.toList_toArray]; exact readsI (ns := x :: xs) rv) (alikeI (x :: xs)) (by rw [show (PyData.int x :: xs.map PyData.int) = (x :: xs).map PyData.int from rfl, depthI]; omega) fun i v h' tk bs hv hr hk => ?_
  rw [PySem.W.minD_ints] at hr
  cases hr with
  | int _ t => exact ⟨.int _, H, I.kept (t' := tk) hk, ⟨t, rfl⟩, q⟩
end
def dMaxL : List D → Option D
  | [.lst _ xs] => (intsOf xs).bind fun ns => (maxI ns).map .int
  | [.tup xs] => (intsOf xs).bind fun ns => (maxI ns).map .int
  | _ => none
def dMinL : List D → Option D
  | [.lst _ xs] => (intsOf xs).bind fun ns => (minI ns).map .int
  | [.tup xs] => (intsOf xs).bind fun ns => (minI ns).map .int
  | _ => none
theorem ok_maxL {c : Vc} : OkF c (fun xs H Q => rMax c.K xs H Q ∨ rMaxT c.K xs H Q) dMaxL := by
  intro Z H ds vs G z Q e r w h
  unfold dMaxL at e
  have fin : ∀ m : Int, z = .int m → Q (.int m) H := fun m e => by subst e; exact h Z H _ [] (Step.subl w (List.nil_sublist _)) ⟨rfl, rfl⟩
  split at e
  · rename_i o xs
    cases ei : intsOf xs with
    | none => rw [ei] at e; cases e
    | some ns =>
      rw [ei] at e
      cases em : maxI ns with
      | none => simp [em] at e
      | some m =>
        simp [em] at e
        obtain ⟨v, rfl, r1⟩ := r.one'
        obtain ⟨a, us, G1, rfl, s1, q1, l1⟩ := r1.lst
        have ex := intsOf_eq ei
        subst ex
        have eu := reps_ints q1
        subst eu
        obtain ⟨m1, m2⟩ := maxI_spec em
        refine .inl ⟨a, ns, rfl, s1, List.length_pos_of_mem m1, fun m' h1 h2 => ?_⟩
        have : m' = m := Int.le_antisymm (m2 _ h1) (h2 _ m1)
        exact fin m' (by rw [← e, this])
  · rename_i xs
    cases ei : intsOf xs with
    | none => rw [ei] at e; cases e
    | some ns =>
      rw [ei] at e
      cases em : maxI ns with
      | none => simp [em] at e
      | some m =>
        simp [em] at e
        obtain ⟨v, rfl, r1⟩ := r.one'
        obtain ⟨a, us, rfl, s1, q1⟩ := r1.tup
        have ex := intsOf_eq ei
        subst ex
        have eu := reps_ints q1
        subst eu
        cases ns with
        | nil => cases em
        | cons x xs => cases em; exact .inr ⟨a, x, xs, rfl, s1, fin _ e.symm⟩
  · cases e
theorem ok_minL {c : Vc} : OkF c (fun xs H Q => rMin c.K xs H Q ∨ rMinT c.K xs H Q) dMinL := by
  intro Z H ds vs G z Q e r w h
  unfold dMinL at e
  have fin : ∀ m : Int, z = .int m → Q (.int m) H := fun m e => by subst e; exact h Z H _ [] (Step.subl w (List.nil_sublist _)) ⟨rfl, rfl⟩
  split at e
  · rename_i o xs
    cases ei : intsOf xs with
    | none => rw [ei] at e; cases e
    | some ns =>
      rw [ei] at e
      cases em : minI ns with
      | none => simp [em] at e
      | some m =>
        simp [em] at e
        obtain ⟨v, rfl, r1⟩ := r.one'
        obtain ⟨a, us, G1, rfl, s1, q1, l1⟩ := r1.lst
        have ex := intsOf_eq ei
        subst ex
        have eu := reps_ints q1
        subst eu
        obtain ⟨m1, m2⟩ := minI_spec em
        refine .inl ⟨a, ns, rfl, s1, List.length_pos_of_mem m1, fun m' h1 h2 => ?_⟩
        have : m' = m := Int.le_antisymm (h2 _ m1) (m2 _ h1)
        exact fin m' (by rw [← e, this])
  · rename_i xs
    cases ei : intsOf xs with
    | none => rw [ei] at e; cases e
    | some ns =>
      rw [ei] at e
      cases em : minI ns with
      | none => simp [em] at e
      | some m =>
        simp [em] at e
        obtain ⟨v, rfl, r1⟩ := r.one'
        obtain ⟨a, us, rfl, s1, q1⟩ := r1.tup
        have ex := intsOf_eq ei
        subst ex
        have eu := reps_ints q1
        subst eu
        cases ns with
        | nil => cases em
        | cons x xs => cases em; exact .inr ⟨a, x, xs, rfl, s1, fin _ e.symm⟩
  · cases e
end VL

set_option Elab.async false
set_option maxRecDepth 100000
/-! VO: the bundle's rules: calls, methods, statements. -/
namespace VL
open PySem L2 PySem.Spec PyProof.Rows

section
variable {X : Cx} {c : Vc} {k : Nat} {N : List Str} {sc : Scope} {ios : List Nat} {vi lo : List Nat} {gl bl : List Str}
variable {a b d e o : Expr} {es rest : List Expr} {fa fb fc fo ft f g : CE} {fs : List CE} {p p1 pos apos cpos tpos : Pos} {i j kk : Nat} {x : Str}
theorem a_nil : PA X [] (tAs c []) := pa_nil
theorem a_cons (ha : PE X e (tV c f)) (hb : PA X es (tAs c fs)) (hs : starEach (e :: es) X.env = (false, eval e X.env) :: starEach es X.env := by rfl) : PA X (e :: es) (tAs c (f :: fs)) := pa_cons ha hb hs
/-! ### built-in functions -/
theorem Bd.len (B : Bd X c k N sc ios vi lo gl bl) (h1 : gl[i]? = some "len") (h2 : bl[j]? = some "len") (ha : PA X (e :: es) (tAs c fs)) (he : starEach (e :: es) X.env = (false, eval e X.env) :: starEach es X.env := by rfl) (hpl : (backTo pos (starEach es X.env)).any (·.1) = false := by rfl) :
    PE X (.Call (.Name "len" p) (e :: es) [] pos) (tV c (cApp dLen fs)) := se_bi (by rw [← B.hK]; exact call_len) ok_len (B.gl' h1) (B.bl' h2) PySem.boot_len ha (by decide) (by decide) he hpl
theorem Bd.max2 (B : Bd X c k N sc ios vi lo gl bl) (h1 : gl[i]? = some "max") (h2 : bl[j]? = some "max") (ha : PA X [e, d] (tAs c fs)) (he : starEach [e, d] X.env = (false, eval e X.env) :: starEach [d] X.env := by rfl) (hpl : (backTo pos (starEach [d] X.env)).any (·.1) = false := by rfl) :
    PE X (.Call (.Name "max" p) [e, d] [] pos) (tV c (cApp dMax fs)) := se_bi (call_max2 B.hc) ok_max (B.gl' h1) (B.bl' h2) PyProof.Rows.boot_max ha (by decide) (by decide) he hpl
theorem Bd.min2 (B : Bd X c k N sc ios vi lo gl bl) (h1 : gl[i]? = some "min") (h2 : bl[j]? = some "min") (ha : PA X [e, d] (tAs c fs)) (he : starEach [e, d] X.env = (false, eval e X.env) :: starEach [d] X.env := by rfl) (hpl : (backTo pos (starEach [d] X.env)).any (·.1) = false := by rfl) :
    PE X (.Call (.Name "min" p) [e, d] [] pos) (tV c (cApp dMin fs)) := se_bi (call_min2 B.hc) ok_min (B.gl' h1) (B.bl' h2) PyProof.Rows.boot_min ha (by decide) (by decide) he hpl
theorem Bd.max1 (B : Bd X c k N sc ios vi lo gl bl) (h1 : gl[i]? = some "max") (h2 : bl[j]? = some "max") (ha : PA X [e] (tAs c fs)) (he : starEach [e] X.env = (false, eval e X.env) :: starEach [] X.env := by rfl) :
    PE X (.Call (.Name "max" p) [e] [] pos) (tV c (cApp dMaxL fs)) := se_bi (by rw [← B.hK]; exact CallR.or (cr_max B.hc) (cr_maxT B.hc B.hu64)) ok_maxL (B.gl' h1) (B.bl' h2) PyProof.Rows.boot_max ha (by decide) (by decide) he rfl
theorem Bd.min1 (B : Bd X c k N sc ios vi lo gl bl) (h1 : gl[i]? = some "min") (h2 : bl[j]? = some "min") (ha : PA X [e] (tAs c fs)) (he : starEach [e] X.env = (false, eval e X.env) :: starEach [] X.env := by rfl) :
    PE X (.Call (.Name "min" p) [e] [] pos) (tV c (cApp dMinL fs)) := se_bi (by rw [← B.hK]; exact CallR.or (cr_min B.hc) (cr_minT B.hc B.hu64)) ok_minL (B.gl' h1) (B.bl' h2) PyProof.Rows.boot_min ha (by decide) (by decide) he rfl
theorem Bd.abs (B : Bd X c k N sc ios vi lo gl bl) (h1 : gl[i]? = some "abs") (h2 : bl[j]? = some "abs") (ha : PA X [e] (tAs c fs)) (he : starEach [e] X.env = (false, eval e X.env) :: starEach [] X.env := by rfl) :
    PE X (.Call (.Name "abs" p) [e] [] pos) (tV c (cApp dAbs fs)) := se_bi call_abs ok_abs (B.gl' h1) (B.bl' h2) (by decide +kernel) ha (by decide) (by decide) he rfl
theorem Bd.all (B : Bd X c k N sc ios vi lo gl bl) (h1 : gl[i]? = some "all") (h2 : bl[j]? = some "all") (ha : PA X [e] (tAs c fs)) (he : starEach [e] X.env = (false, eval e X.env) :: starEach [] X.env := by rfl) :
    PE X (.Call (.Name "all" p) [e] [] pos) (tV c (cApp dAll fs)) := se_bi (by rw [← B.hK]; exact cr_all B.hc) ok_all (B.gl' h1) (B.bl' h2) PyProof.Rows.boot_all ha (by decide) (by decide) he rfl
theorem Bd.any (B : Bd X c k N sc ios vi lo gl bl) (h1 : gl[i]? = some "any") (h2 : bl[j]? = some "any") (ha : PA X [e] (tAs c fs)) (he : starEach [e] X.env = (false, eval e X.env) :: starEach [] X.env := by rfl) :
    PE X (.Call (.Name "any" p) [e] [] pos) (tV c (cApp dAny fs)) := se_bi (by rw [← B.hK]; exact cr_any B.hc) ok_any (B.gl' h1) (B.bl' h2) PyProof.Rows.boot_any ha (by decide) (by decide) he rfl
theorem Bd.sum (B : Bd X c k N sc ios vi lo gl bl) (h1 : gl[i]? = some "sum") (h2 : bl[j]? = some "sum") (ha : PA X [e] (tAs c fs)) (he : starEach [e] X.env = (false, eval e X.env) :: starEach [] X.env := by rfl) :
    PE X (.Call (.Name "sum" p) [e] [] pos) (tV c (cApp dSum fs)) := se_bi (by rw [← B.hK]; exact cr_sum B.hc) ok_sum (B.gl' h1) (B.bl' h2) PyProof.Rows.boot_sum ha (by decide) (by decide) he rfl
theorem Bd.sorted (B : Bd X c k N sc ios vi lo gl bl) (h1 : gl[i]? = some "sorted") (h2 : bl[j]? = some "sorted") (ha : PA X [e] (tAs c fs)) (he : starEach [e] X.env = (false, eval e X.env) :: starEach [] X.env := by rfl) :
    PE X (.Call (.Name "sorted" p) [e] [] pos) (tV c (cApp dSortAny fs)) := se_bi (by rw [← B.hK, ← B.hM]; exact cr_sortAny B.hc B.hu64) ok_sortAny (B.gl' h1) (B.bl' h2) PyProof.Rows.boot_sorted ha (by decide) (by decide) he rfl
theorem Bd.int (B : Bd X c k N sc ios vi lo gl bl) (h1 : gl[i]? = some "int") (h2 : bl[j]? = some "int") (ha : PA X [e] (tAs c fs)) (he : starEach [e] X.env = (false, eval e X.env) :: starEach [] X.env := by rfl) :
    PE X (.Call (.Name "int" p) [e] [] pos) (tV c (cApp dToInt fs)) := se_ty call_toInt ok_toInt (B.gl' h1) (B.bl' h2) (by decide +kernel) ha (by decide) (by decide) he rfl
theorem Bd.str (B : Bd X c k N sc ios vi lo gl bl) (h1 : gl[i]? = some "str") (h2 : bl[j]? = some "str") (ha : PA X [e] (tAs c fs)) (he : starEach [e] X.env = (false, eval e X.env) :: starEach [] X.env := by rfl) :
    PE X (.Call (.Name "str" p) [e] [] pos) (tV c (cApp dStr fs)) := se_ty call_str_int ok_str (B.gl' h1) (B.bl' h2) (by decide +kernel) ha (by decide) (by decide) he rfl
theorem Bd.list (B : Bd X c k N sc ios vi lo gl bl) (h1 : gl[i]? = some "list") (h2 : bl[j]? = some "list") (ha : PA X [e] (tAs c fs)) (he : starEach [e] X.env = (false, eval e X.env) :: starEach [] X.env := by rfl) :
    PE X (.Call (.Name "list" p) [e] [] pos) (tV c (cApp dToLst fs)) := se_ty (by rw [← B.hK]; exact call_list_of) ok_toLst (B.gl' h1) (B.bl' h2) (by decide +kernel) ha (by decide) (by decide) he rfl
theorem Bd.tuple (B : Bd X c k N sc ios vi lo gl bl) (h1 : gl[i]? = some "tuple") (h2 : bl[j]? = some "tuple") (ha : PA X [e] (tAs c fs)) (he : starEach [e] X.env = (false, eval e X.env) :: starEach [] X.env := by rfl) :
    PE X (.Call (.Name "tuple" p) [e] [] pos) (tV c (cApp dToTup fs)) := se_ty (by rw [← B.hK]; exact call_tuple_of) ok_toTup (B.gl' h1) (B.bl' h2) (by decide +kernel) ha (by decide) (by decide) he rfl
/-! isinstance -/
theorem Bd.isaInt (B : Bd X c k N sc ios vi lo gl bl) {i2 j2 : Nat} (h1 : gl[i]? = some "isinstance") (h2 : bl[j]? = some "isinstance") (h3 : gl[i2]? = some "int") (h4 : bl[j2]? = some "int") (ha : PE X e (tV c f)) (hs : starEach [e, .Name "int" p1] X.env = (false, eval e X.env) :: starEach [.Name "int" p1] X.env := by rfl) :
    PE X (.Call (.Name "isinstance" p) [e, .Name "int" p1] [] pos) (tV c (cIsa [.int] f)) := se_isa1 (t := .int) rfl (B.gl' h1) (B.bl' h2) (B.gl' h3) (B.bl' h4) (by decide +kernel) B.hK ha (by decide) (by decide) hs
theorem Bd.isaBool (B : Bd X c k N sc ios vi lo gl bl) {i2 j2 : Nat} (h1 : gl[i]? = some "isinstance") (h2 : bl[j]? = some "isinstance") (h3 : gl[i2]? = some "bool") (h4 : bl[j2]? = some "bool") (ha : PE X e (tV c f)) (hs : starEach [e, .Name "bool" p1] X.env = (false, eval e X.env) :: starEach [.Name "bool" p1] X.env := by rfl) :
    PE X (.Call (.Name "isinstance" p) [e, .Name "bool" p1] [] pos) (tV c (cIsa [.bool] f)) := se_isa1 (t := .bool) rfl (B.gl' h1) (B.bl' h2) (B.gl' h3) (B.bl' h4) (by decide +kernel) B.hK ha (by decide) (by decide) hs
theorem Bd.isaStr (B : Bd X c k N sc ios vi lo gl bl) {i2 j2 : Nat} (h1 : gl[i]? = some "isinstance") (h2 : bl[j]? = some "isinstance") (h3 : gl[i2]? = some "str") (h4 : bl[j2]? = some "str") (ha : PE X e (tV c f)) (hs : starEach [e, .Name "str" p1] X.env = (false, eval e X.env) :: starEach [.Name "str" p1] X.env := by rfl) :
    PE X (.Call (.Name "isinstance" p) [e, .Name "str" p1] [] pos) (tV c (cIsa [.str] f)) := se_isa1 (t := .str) rfl (B.gl' h1) (B.bl' h2) (B.gl' h3) (B.bl' h4) (by decide +kernel) B.hK ha (by decide) (by decide) hs
theorem Bd.isaList (B : Bd X c k N sc ios vi lo gl bl) {i2 j2 : Nat} (h1 : gl[i]? = some "isinstance") (h2 : bl[j]? = some "isinstance") (h3 : gl[i2]? = some "list") (h4 : bl[j2]? = some "list") (ha : PE X e (tV c f)) (hs : starEach [e, .Name "list" p1] X.env = (false, eval e X.env) :: starEach [.Name "list" p1] X.env := by rfl) :
    PE X (.Call (.Name "isinstance" p) [e, .Name "list" p1] [] pos) (tV c (cIsa [.list] f)) := se_isa1 (t := .list) rfl (B.gl' h1) (B.bl' h2) (B.gl' h3) (B.bl' h4) (by decide +kernel) B.hK ha (by decide) (by decide) hs
theorem Bd.isaTuple (B : Bd X c k N sc ios vi lo gl bl) {i2 j2 : Nat} (h1 : gl[i]? = some "isinstance") (h2 : bl[j]? = some "isinstance") (h3 : gl[i2]? = some "tuple") (h4 : bl[j2]? = some "tuple") (ha : PE X e (tV c f)) (hs : starEach [e, .Name "tuple" p1] X.env = (false, eval e X.env) :: starEach [.Name "tuple" p1] X.env := by rfl) :
    PE X (.Call (.Name "isinstance" p) [e, .Name "tuple" p1] [] pos) (tV c (cIsa [.tuple] f)) := se_isa1 (t := .tuple) rfl (B.gl' h1) (B.bl' h2) (B.gl' h3) (B.bl' h4) (by decide +kernel) B.hK ha (by decide) (by decide) hs
theorem Bd.isaLT (B : Bd X c k N sc ios vi lo gl bl) {i2 j2 i3 j3 : Nat} {p2 tp : Pos} (h1 : gl[i]? = some "isinstance") (h2 : bl[j]? = some "isinstance") (h3 : gl[i2]? = some "list") (h4 : bl[j2]? = some "list") (h5 : gl[i3]? = some "tuple") (h6 : bl[j3]? = some "tuple") (ha : PE X e (tV c f))
    (hs : starEach [e, .Tuple [.Name "list" p1, .Name "tuple" p2] kk tp] X.env = (false, eval e X.env) :: starEach [.Tuple [.Name "list" p1, .Name "tuple" p2] kk tp] X.env := by rfl) :
    PE X (.Call (.Name "isinstance" p) [e, .Tuple [.Name "list" p1, .Name "tuple" p2] kk tp] [] pos) (tV c (cIsa [.list, .tuple] f)) :=
  se_isaN (ts := [.list, .tuple]) (B.gl' h1) (B.bl' h2) B.hK ha (pa_cons (pe_bltn (B.gl' h3) (B.bl' h4) (show bootBuiltins "list" = some (.type "list") by decide +kernel) rfl) (pa_cons (pe_bltn (B.gl' h5) (B.bl' h6) (show bootBuiltins "tuple" = some (.type "tuple") by decide +kernel) rfl) pa_nil)) (by decide) hs
/-! ### subscripts -/
theorem Bd.ix (B : Bd X c k N sc ios vi lo gl bl) (ha : PE X a (tV c fa)) (hb : PE X b (tV c fb)) (hs : PlainIx b := by exact fun _ _ => rfl) : PE X (.Subscript a b pos) (tV c (cApp dIx [fa, fb])) := se_ix B.hu1 B.hK ha hb hs
/-! ### methods of texts -/
theorem Bd.join (B : Bd X c k N sc ios vi lo gl bl) (ho : PE X o (tV c fo)) (ha : PA X [e] (tAs c fs)) (hbase : attributeBase o "join" X.env (eval o X.env) = eval o X.env := by rfl)
    (hpy : ((backTo cpos (starEach [e] X.env)).all (!·.1) && (backToKw cpos (keywordEach [] X.env)).all (·.1.isSome) && decide (([e] : List Expr).length + ([] : List Keyword).length + (if ([] : List Keyword).isEmpty then 0 else 1) < 30)) = true := by rfl)
    (hline : (apos.endLine == cpos.line) = true := by rfl) (he : starEach [e] X.env = (false, eval e X.env) :: starEach [] X.env := by rfl) :
    PE X (.Call (.Attribute o "join" apos) [e] [] cpos) (tV c (cMet isStr dJoin fo fs)) := se_met F.plainAttrs_str F.slot_str_join F.type_str_join (by exact mt_join) B.hK isStr_ty (by rw [B.hK]; exact ok_join) ho ha hbase hpy hline he rfl
theorem Bd.split (B : Bd X c k N sc ios vi lo gl bl) (ho : PE X o (tV c fo)) (ha : PA X [e] (tAs c fs)) (hbase : attributeBase o "split" X.env (eval o X.env) = eval o X.env := by rfl)
    (hpy : ((backTo cpos (starEach [e] X.env)).all (!·.1) && (backToKw cpos (keywordEach [] X.env)).all (·.1.isSome) && decide (([e] : List Expr).length + ([] : List Keyword).length + (if ([] : List Keyword).isEmpty then 0 else 1) < 30)) = true := by rfl)
    (hline : (apos.endLine == cpos.line) = true := by rfl) (he : starEach [e] X.env = (false, eval e X.env) :: starEach [] X.env := by rfl) :
    PE X (.Call (.Attribute o "split" apos) [e] [] cpos) (tV c (cMet isStr dSplit fo fs)) := se_met F.plainAttrs_str F.slot_str_split F.type_str_split (by exact mt_split) B.hK isStr_ty ok_split ho ha hbase hpy hline he rfl
theorem Bd.partition (B : Bd X c k N sc ios vi lo gl bl) (ho : PE X o (tV c fo)) (ha : PA X [e] (tAs c fs)) (hbase : attributeBase o "partition" X.env (eval o X.env) = eval o X.env := by rfl)
    (hpy : ((backTo cpos (starEach [e] X.env)).all (!·.1) && (backToKw cpos (keywordEach [] X.env)).all (·.1.isSome) && decide (([e] : List Expr).length + ([] : List Keyword).length + (if ([] : List Keyword).isEmpty then 0 else 1) < 30)) = true := by rfl)
    (hline : (apos.endLine == cpos.line) = true := by rfl) (he : starEach [e] X.env = (false, eval e X.env) :: starEach [] X.env := by rfl) :
    PE X (.Call (.Attribute o "partition" apos) [e] [] cpos) (tV c (cMet isStr dPartition fo fs)) := se_met F.plainAttrs_str F.slot_str_partition F.type_str_partition (by exact mt_partition) B.hK isStr_ty ok_partition ho ha hbase hpy hline he rfl
end
end VL
namespace VL
open PySem L2 PySem.Spec PyProof.Rows
/-! ### calls of defs -/
def Cal (P : Program) (w : World) (K : PySem.W.Frag) (mg : Str → Option Value) (base : Heap) (k : Nat) (x : Str) (ps : List Str) (ios : List Nat) (fn : Fn) : Prop :=
  ∃ f fd, FnOk P w K mg base (L2.CX P w) k f fd ps (spV K mg ps.length ios fn) ∧ mg x = some (.ref f) ∧ PySem.W.keepIn K (.ref f) = true ∧ Binds K fd ps [] ∧ ∃ oc od osl, K.lookup f = some ⟨oc, od, .func fd, osl⟩
theorem Cal.mono {P : Program} {w : World} {K : PySem.W.Frag} {mg : Str → Option Value} {base : Heap} {j k : Nat} {x : Str} {ps : List Str} {ios : List Nat} {fn : Fn} (h : Cal P w K mg base j x ps ios fn) (hk : j ≤ k) : Cal P w K mg base k x ps ios fn := by
  obtain ⟨f, fd, h1, h2⟩ := h
  exact ⟨f, fd, h1.mono hk, h2⟩
theorem Cal.to {P P' : Program} {w w' : World} {K K' : PySem.W.Frag} {mg mg' : Str → Option Value} {base base' : Heap} {k : Nat} {x : Str} {ps : List Str} {ios : List Nat} {fn : Fn} (h : Cal P w K mg base k x ps ios fn) (e1 : P' = P) (e2 : w' = w) (e3 : K' = K) (e4 : mg' = mg) (e5 : base' = base) : Cal P' w' K' mg' base' k x ps ios fn := by
  subst e1 e2 e3 e4 e5
  exact h
/-- a def, as the top has made it -/
def Ent (K : PySem.W.Frag) (mg : Str → Option Value) (x : Str) (st : Stmt) (ps : List Str) : Prop := ∃ f fd, Fun K x x st f fd ∧ mg x = some (.ref f) ∧ Binds K fd ps []
theorem _root_.L2.Fun.lk {K : PySem.W.Frag} {x qual : Str} {st : Stmt} {f : Addr} {fd : FuncData} (F : Fun K x qual st f fd) : ∃ oc od osl, K.lookup f = some ⟨oc, od, .func fd, osl⟩ := by
  obtain ⟨oc, od, kV, doc, pm, an, cdv, ct, osl, e, l, _⟩ := F.ex
  exact ⟨oc, od, osl, l⟩
theorem ent_mk {K : PySem.W.Frag} {h : Heap} {mg : Str → Option Value} {x : Str} {st : Stmt} {ps : List Str} {f : Addr} {oc : Value} {od an : Option Addr} {osl : Array (Option Value)} {kV doc pm cdv ct : Value} (X : K.In h) (G : h.Ns mainGlobals mg) (a : PySem.W.nsIn K mainGlobals x = some (some (.ref f)))
    (l : K.lookup f = some ⟨oc, od, .func (PySem.W.fnOf x x (defArgs st) (defBody st) (defScope st) .none kV doc pm an cdv ct), osl⟩) (cc : PySem.W.codeIn K cdv x = true) (kk : PySem.W.keepIn K (.ref f) = true)
    (hb : ∀ (kV doc pm : Value) (an : Option Addr) (cdv ct : Value) (us : List Value), us.length = ps.length → bindArgs (PySem.W.fnOf x x (defArgs st) (defBody st) (defScope st) .none kV doc pm an cdv ct) ⟨us, []⟩ = pure (ps.zip us)) : Ent K mg x st ps :=
  ⟨f, _, fun_mk (st := st) l cc kk, PySem.W.mg_of X G a, (fun_mk (st := st) l cc kk).binds hb⟩
/-- the law itself: it is handed a list of whole numbers -/
def spLaw (K : PySem.W.Frag) : Sp := fun vs H Q _ => ∃ (a : Addr) (ns : List Int), vs = [.ref a] ∧ SqL K H a (ns.map V.int) ∧ ns.length ≤ 63 ∧ ∀ H', Q (.bl true) H'
theorem law_mk {P : Program} {w : World} {K : PySem.W.Frag} {h : Heap} {mg : Str → Option Value} {fa f : Addr} {fd : FuncData} {oc : Value} {od : Option Addr} {osl : Array (Option Value)} {n : Nat} {fn : Fn} (X : K.In h) (G : h.Ns mainGlobals mg) (hfa : mg "law" = some (.ref fa)) (a : PySem.W.nsIn K mainGlobals "law" = some (some (.ref f))) (l : K.lookup f = some ⟨oc, od, .func fd, osl⟩) (hb : ∀ (s : Shared) (v : Value), BindsTo s fd ⟨[v], []⟩ [("script", v)])
    (hc : ∀ base : Heap, K.In base → base.Ns mainGlobals mg → Cal P w K mg base n "law" ["script"] [] fn) (hl : ∀ ns : List Int, ns.length ≤ 63 → ∃ outs, fn [.lst false (ns.map .int)] = .ok (.bl true) outs) :
    ∃ fd : FuncData, (∀ (s : Shared) (v : Value), BindsTo s fd ⟨[v], []⟩ [("script", v)]) ∧ ∀ base : Heap, K.In base → base.Ns mainGlobals mg → FnOk P w K mg base (L2.CX P w) n fa fd ["script"] (spLaw K) := by
  refine ⟨fd, hb, fun base hK hG => ?_⟩
  obtain ⟨f', fd', h1, h2, h3, h4, oc', od', osl', h5⟩ := hc base hK hG
  have e1 : f' = fa := by rw [hfa] at h2; cases h2; rfl
  have e2 : f = fa := by have q := hfa.symm.trans (PySem.W.mg_of X G a); cases q; rfl
  subst e1 e2
  have e3 : fd' = fd := by rw [l] at h5; cases h5; rfl
  subst e3
  refine h1.imp (fun vs H Q E ⟨b, ns, e, hq, hn, k⟩ => ?_)
  subst e
  obtain ⟨outs, eo⟩ := hl ns hn
  have reps : ∀ (Z : Addr → Prop) (ns : List Int), Reps K mg Z H (ns.map D.int) (ns.map V.int) [] := fun Z ns => by
    induction ns with
    | nil => exact ⟨rfl, rfl⟩
    | cons z zs ih => exact ⟨_, _, [], [], rfl, ⟨rfl, rfl⟩, ih, rfl⟩
  have fin : ∀ Z : Addr → Prop, (Z b ∨ KL K b (ns.map V.int)) → Wd Z H [] → spV K mg 1 [] fn [.ref b] H Q E := fun Z hz wd => by
    refine ⟨Z, [.lst false (ns.map D.int)], [], ⟨.ref b, [], [], [], rfl, ⟨b, _, rfl, hq, hz, reps Z ns, rfl⟩, ⟨rfl, rfl⟩, rfl⟩, wd, rfl, ?_⟩
    rw [eo]
    rintro Z' H' v A B s ⟨rfl, rfl⟩ ro
    exact k H'
  rcases id hq with (q | ⟨o, q⟩) | q
  · exact fin (fun c => c = b) (.inl rfl) ⟨List.nodup_nil, (fun a m => by cases m), (fun a e => by rw [e, q]; simp)⟩
  · exact fin (fun c => c = b) (.inl rfl) ⟨List.nodup_nil, (fun a m => by cases m), (fun a e => by rw [e, q]; simp)⟩
  · exact fin (fun _ => False) (.inr (.inr q)) ⟨List.nodup_nil, (fun a m => by cases m), (fun a e => e.elim)⟩
theorem law_walk {l : PySem.W.OpenLaw} {q : Program} {loose : List Str} {XP : (Str → Option Value) → Heap → Prop} {YP : World → Heap → Prop} {d : DefRec} {K : Params → PySem.W.Frag} {k : Nat} (hk : k ≤ 60) (hn : l.most = some 63) (hdf : d.params.defaults = [])
    (hY : ∀ (w : World) (h : Heap), YP w h → (K w.params).In h)
    (F : ∀ (w : World) (mg : Str → Option Value) (fa : Addr) (h : Heap), (K w.params).In h → h.Ns mainGlobals mg → mg d.name = some (.ref fa) →
      ∃ fd : FuncData, (∀ (s : Shared) (u : Value), BindsTo s fd ⟨[u], []⟩ [("script", u)]) ∧ ∀ base : Heap, (K w.params).In base → base.Ns mainGlobals mg → FnOk l.prog w (K w.params) mg base (L2.CX l.prog w) k fa fd ["script"] (spLaw (K w.params))) :
    PySem.W.WalkO q loose XP YP l.row.toRowW d [] (fun f vs => PySem.call f vs) :=
  L2.walk_of (n := 63) (k := k) (x := "script") (CX := fun w => L2.CX l.prog w) (sp := fun w => spLaw (K w.params)) hn (by decide) hdf ⟨rfl, Nat.lt_of_le_of_lt (show callerA.depth + 3 * k + 5 ≤ callerA.depth + 3 * 60 + 5 by omega) (by decide), Nat.lt_of_le_of_lt (show callerA.units + 16 * k + 200 ≤ callerA.units + 16 * 60 + 200 by omega) (by decide)⟩ hY F (fun _ _ a ns hl _ hS => ⟨a, ns, rfl, hS, hl, fun _ => rfl⟩) fun _ _ _ _ _ ⟨_, _, _, _, _, _, _, _, _, _, _, _, z⟩ => z
section
variable {X : Cx} {c : Vc} {k : Nat} {N : List Str} {sc : Scope} {ios : List Nat} {vi lo : List Nat} {gl bl : List Str}
variable {a b d e o : Expr} {es rest : List Expr} {fa fb fc fo ft f g : CE} {fs : List CE} {p p1 pos apos cpos tpos : Pos} {i j kk : Nat} {x : Str}
theorem Bd.call (B : Bd X c k N sc ios vi lo gl bl) {ps : List Str} {io : List Nat} {fn : Fn} {as : List Ar} (C : Cal X.prog X.w X.K X.mg X.base k x ps io fn) (hg : gl[i]? = some x) (hn : as.length = ps.length) (ha : PA X (e :: es) (tRs c as))
    (he : starEach (e :: es) X.env = (false, eval e X.env) :: starEach es X.env := by rfl) (hpl : (backTo pos (starEach es X.env)).any (·.1) = false := by rfl) : PE X (.Call (.Name x p) (e :: es) [] pos) (tV c (cCall io fn as)) := by
  obtain ⟨f, fd, h1, h2, h3, h4, _⟩ := C
  exact se_call h1 B.hr B.hK B.hM (B.gl' hg) h2 h3 h4 B.tk hn ha (B.gd hg) he hpl
theorem r_nil : PA X [] (tRs c []) := pa_nil
theorem r_val {as : List Ar} (ha : PE X e (tV c f)) (hb : PA X es (tRs c as)) (hs : starEach (e :: es) X.env = (false, eval e X.env) :: starEach es X.env := by rfl) : PA X (e :: es) (tRs c (.inl f :: as)) := pa_cons ha hb hs
theorem Bd.r_io (B : Bd X c k N sc ios vi lo gl bl) {as : List Ar} (hx : N[i]? = some x) (hv : i ∈ vi) (hb : PA X es (tRs c as)) (hs : starEach (.Name x p :: es) X.env = (false, eval (.Name x p) X.env) :: starEach es X.env := by rfl) : PA X (.Name x p :: es) (tRs c (.inr i :: as)) := pa_cons (B.raw hx hv) hb hs
/-! ### the text of a def -/
/-- in a def's own body (no comprehension's) -/
structure Bs (X : Cx) (c : Vc) (k : Nat) (N : List Str) (sc : Scope) (ios : List Nat) (vi lo : List Nat) (gl bl : List Str) : Prop where
  B : Bd X c k N sc ios vi lo gl bl
  po : PassesOwn (model X.prog X.w) X.A X.env X.xe
  fa : ∀ y, X.fn y = true
theorem cal_of {P : Program} {w : World} {K : PySem.W.Frag} {mg : Str → Option Value} {base : Heap} {st : Stmt} {ps : List Str} {np nl : Nat} {b : CS} (E : Ent K mg x st ps) (S : FnScope N ps (defScope st)) (hp : ps.length = np) (hn : N.length = np + nl) (hi : ∀ i ∈ ios, i < np) (nd : ios.Nodup) (ok : scC N (defScope st) vi lo gl = true) (hbl : ∀ x ∈ bl, mg x = none)
    (hb : ∀ (X : Cx) (c : Vc), X.prog = P → X.w = w → X.K = K → X.mg = mg → X.base = base → Bs X c k N (defScope st) ios vi lo gl bl → PSs X (defBody st) (tS c b)) : Cal P w K mg base (k + 1) x ps ios (runF np nl ios b) := by
  obtain ⟨f, fd, F, h2, h3⟩ := E
  refine ⟨f, fd, ?_, h2, F.kp, h3, F.lk⟩
  rw [hp]
  exact fn_ok F S hp hn hi nd fun X c e1 e2 e3 e4 e5 e6 e7 e8 e9 e10 e11 e12 e13 e14 e15 e16 e17 => hb X c e1 e2 e3 e4 e5 ⟨⟨e6, e7, ok, e8, by rw [e3, e14], by rw [e4, e15], e16, e17, e9, fun i _ x _ => .inl (e10 x), fun x m => by rw [e4]; exact hbl x m⟩, e13, e10⟩
/-- a def that calls itself: where nothing is promised -/
theorem cal_bad {P : Program} {w : World} {K : PySem.W.Frag} {mg : Str → Option Value} {base : Heap} {st : Stmt} {ps : List Str} (E : Ent K mg x st ps) (S : FnScope N ps (defScope st)) : Cal P w K mg base 1 x ps ios (fun _ => .bad) := by
  obtain ⟨f, fd, F, h2, h3⟩ := E
  refine ⟨f, fd, ?_, h2, F.kp, h3, F.lk⟩
  refine F.okX S (spV_len rfl) (fun cdv A outer s H vs Q E hr hsp => ?_)
  obtain ⟨Z, ds, G, r, wd, hl, h⟩ := hsp
  exact h.elim
/-- a comprehension's block: names free in it that are cells of the def's -/
def relB (sc scope : Scope) : Scope := { scope with names := scope.names.map fun (n, k) => if (k == NameKind.free && sc.kind == .function && sc.names.lookup n == some .cell) then (n, NameKind.cell) else (n, k) }
def fnB (N : List Str) (scope sc' : Scope) (lo : List Nat) : Bool := lo.all (atB N fun x => (scope.names.lookup x == some .cell) || (sc'.names.lookup x == some .local))
def blC (N : List Str) (sc scope : Scope) (own : List (Str × Nat)) (ios vi lo : List Nat) (gl : List Str) (ids : List Nat) : Bool :=
  scC N (relB sc scope) vi lo gl && fnB N scope (relB sc scope) lo && blkC N sc scope own && (own.map (·.2)).all (fun i => !ios.contains i) && ids.all (fun i => (own.map (·.2)).contains i)
theorem Bd.blk (B : Bd X c k N sc ios vi lo gl bl) {s : Shared} {H : Hp} {scope : Scope} {C : Addr} {cl : List (Str × Addr)} {fp : List Addr} {vi' lo' : List Nat} {gl' : List Str} (ok : scC N (relB sc scope) vi' lo' gl' = true) (hf : fnB N scope (relB sc scope) lo' = true) :
    Bd (X.blk s H scope (compEnvC scope cl C X.env) fp) c.blk k N (relB sc scope) ios vi' lo' gl' bl :=
  ⟨B.hN, by rw [← B.hsc]; rfl, ok, B.hc, B.hK, B.hM, B.hi, takes_blk, B.hr, fun i m x e => by
    have q := List.all_eq_true.mp hf i m
    unfold atB at q
    rw [e] at q
    rcases Bool.or_eq_true_iff.mp q with q | q
    · exact .inl q
    · exact .inr (by simpa using q), B.bl⟩
theorem Bd.tgN (B : Bd X c k N sc ios vi lo gl bl) (hx : N[i]? = some x) (hl : i ∈ lo) : TrOk X (.Name x p) (.n i) := by
  exact .n (by rw [B.hN]; exact hx) (by rw [B.hsc]; exact B.sk.loc i hl x hx) (by rw [B.hsc]; exact B.fn i hl x hx)
theorem Bd.ts0 (B : Bd X c k N sc ios vi lo gl bl) : Tgs X [] [] := .nil
theorem Bd.ts (B : Bd X c k N sc ios vi lo gl bl) {is : List Nat} (hx : N[i]? = some x) (hl : i ∈ lo) (t : Tgs X es is) : Tgs X (.Name x p :: es) (i :: is) := by
  exact .cons (by rw [B.hN]; exact hx) (by rw [B.hsc]; exact B.sk.loc i hl x hx) (by rw [B.hsc]; exact B.fn i hl x hx) t
theorem tgT {is : List Nat} (t : Tgs X es is) (h : (assignEach es X.env).findIdx? (·.1) = none := by rfl) : TrOk X (.Tuple es kk p) (.t is) := .t t h
/-- what a comprehension is made of: its block's parts from the block's bundle -/
theorem Bd.lc (B : Bd X c k N sc ios vi lo gl bl) {elt tgE iter : Expr} {ifs : List Expr} {scope : Scope} {own : List (Str × Nat)} {it : List D → RA} {tg : Tr} {cond ce : CE} {vi' lo' : List Nat} {gl' : List Str} (ok : blC N sc scope own ios vi' lo' gl' tg.ids = true)
    (hi : PI X tgE iter (tIt c it)) (hb : ∀ Y : Cx, Y.prog = X.prog → Y.w = X.w → Y.K = X.K → Y.mg = X.mg → Y.base = X.base → Bd Y c.blk k N (relB sc scope) ios vi' lo' gl' bl → TrOk Y tgE tg ∧ PTs Y ifs (tT c.blk cond) ∧ PE Y elt (tV c.blk ce))
    (hs : ∀ x, foldedSetIterable iter X.env x = pure x := by intro _; rfl) : PE X (.ListComp elt [⟨tgE, iter, ifs, 0⟩] scope pos) (tV c (cLc (own.map (·.2)) it tg cond ce)) := by
  unfold blC at ok
  simp only [Bool.and_eq_true] at ok
  obtain ⟨⟨⟨⟨ok, hf⟩, bk⟩, hd⟩, ht⟩ := ok
  refine se_lc B.hc B.nd B.hK (fun i m => ?_) (fun i m => ?_) hi (by rw [B.hN, B.hsc]; exact blkOk_by bk) ⟨fun Y ⟨s, H, C, cl, fp, e⟩ => ?_⟩ hs
  · have q := List.all_eq_true.mp hd i m
    rw [B.hi]
    simpa using q
  · have q := List.all_eq_true.mp ht i m
    simpa using q
  · subst e
    exact hb _ rfl rfl rfl rfl rfl (B.blk ok hf)
theorem Bd.slc (B : Bd X c k N sc ios vi lo gl bl) {y : Str} {py spos : Pos} {elt tgE iter : Expr} {ifs : List Expr} {scope : Scope} {own : List (Str × Nat)} {it : List D → RA} {tg : Tr} {cond ce : CE} {vi' lo' : List Nat} {gl' : List Str} (hy : N[i]? = some y) (hyl : sc.names.lookup y = some .local) (hio : ios.contains i = false) (ok : blC N sc scope own ios vi' lo' gl' tg.ids = true)
    (hi : PI X tgE iter (tIt c it)) (hb : ∀ Y : Cx, Y.prog = X.prog → Y.w = X.w → Y.K = X.K → Y.mg = X.mg → Y.base = X.base → Bd Y c.blk k N (relB sc scope) ios vi' lo' gl' bl → TrOk Y tgE tg ∧ PTs Y ifs (tT c.blk cond) ∧ PE Y elt (tV c.blk ce))
    (hl : (py.line == pos.line) = true) (hn : (scope.names.any fun (n, k) => n == y && (k == .local || k == .cell)) = false) (hs : ∀ x, foldedSetIterable iter X.env x = pure x := by intro _; rfl) :
    PS X (.Assign [.Name y py] (.ListComp elt [⟨tgE, iter, ifs, 0⟩] scope pos) spos) (tS c (sAsg i (cLc (own.map (·.2)) it tg cond ce))) := by
  unfold blC at ok
  simp only [Bool.and_eq_true] at ok
  obtain ⟨⟨⟨⟨ok, hf⟩, bk⟩, hd⟩, ht⟩ := ok
  refine ss_lc B.hc B.nd B.hK (by rw [B.hi]; simpa using hio) (fun i m => ?_) (fun i m => ?_) (by rw [B.hN]; exact hy) (by rw [B.hsc]; exact hyl) hi (by rw [B.hN, B.hsc]; exact blkOk_by bk) ⟨fun Y ⟨s, H, C, cl, fp, e⟩ => ?_⟩ ?_ hs
  · have q := List.all_eq_true.mp hd i m
    rw [B.hi]
    simpa using q
  · have q := List.all_eq_true.mp ht i m
    simpa using q
  · subst e
    exact hb _ rfl rfl rfl rfl rfl (B.blk ok hf)
  · exact sw_true (by rw [B.hsc]; exact B.sk.kind) (by rw [B.hsc]; exact hyl) hl hn
/-! ### statements -/
theorem Bd.asg (B : Bd X c k N sc ios vi lo gl bl) (hx : N[i]? = some x) (hl : i ∈ lo) (hio : ios.contains i = false) (he : PE X e (tV c f)) (hs : swapsWith e (some (.Name x p)) pos.line X.env = pure false := by rfl) : PS X (.Assign [.Name x p] e pos) (tS c (sAsg i f)) := by
  exact ss_asg (by rw [B.hi]; simpa using hio) B.nd (by rw [B.hN]; exact hx) (by rw [B.hsc]; exact B.sk.loc i hl x hx) he hs (by rw [B.hsc]; exact B.fn i hl x hx)
theorem Bd.unp (B : Bd X c k N sc ios vi lo gl bl) {is : List Nat} (hio : is.all (fun i => !ios.contains i) = true) (ht : Tgs X es is) (he : PE X e (tV c f)) (hst : (assignEach es X.env).findIdx? (·.1) = none := by rfl)
    (hs : swapsWithSole [.Tuple es kk p] e pos.line X.env = pure false := by rfl) (hw : swappedStores [.Tuple es kk p] e X.env = pure none := by rfl) (h1 : (assignEach [.Tuple es kk p] X.env).map (·.2) = [assign (.Tuple es kk p) X.env] := by rfl) :
    PS X (.Assign [.Tuple es kk p] e pos) (tS c (sUnp is f)) := ss_unp (fun i m => by have q := List.all_eq_true.mp hio i m; rw [B.hi]; simpa using q) B.hc B.hK B.nd ht he hst hs hw h1
theorem Bd.for_ (S : Bs X c k N sc ios vi lo gl bl) {tg iter : Expr} {t : Tr} {it : List D → RA} {body : List Stmt} {fb : CS} (hio : t.ids.all (fun i => !ios.contains i) = true) (ht : TrOk X tg t) (hw : PI X tg iter (tIt c it)) (hb : PSs X body (tS c fb))
    (hs : ∀ x, foldedSetIterable iter X.env x = pure x := by intro _; rfl) : PS X (.For tg iter body [] pos) (tS c (sFor t it fb)) :=
  ss_for S.po S.B.hc S.B.nd S.B.hK (fun i m => by have q := List.all_eq_true.mp hio i m; rw [S.B.hi]; simpa using q) ht hw hb hs
theorem Bd.while_ (S : Bs X c k N sc ios vi lo gl bl) {t : CE} {body : List Stmt} {fb : CS} (ht : PT X e (tT c t)) (hb : PSs X body (tS c fb)) : PS X (.While e body [] pos) (tS c (sWhile t fb)) := ss_while S.po ht hb
theorem Bd.append (B : Bd X c k N sc ios vi lo gl bl) (hx : N[i]? = some x) (hv : i ∈ vi) (ha : PA X [e] (tAs c fs)) (hbase : attributeBase (.Name x p) "append" X.env (eval (.Name x p) X.env) = eval (.Name x p) X.env := by rfl)
    (hpy : ((backTo cpos (starEach [e] X.env)).all (!·.1) && (backToKw cpos (keywordEach [] X.env)).all (·.1.isSome) && decide (([e] : List Expr).length + ([] : List Keyword).length + (if ([] : List Keyword).isEmpty then 0 else 1) < 30)) = true := by rfl)
    (hline : (apos.endLine == cpos.line) = true := by rfl) (he : starEach [e] X.env = (false, eval e X.env) :: starEach [] X.env := by rfl) : PE X (.Call (.Attribute (.Name x p) "append" apos) [e] [] cpos) (tV c (cMut i isLst mAppend fs)) :=
  se_mut F.plainAttrs_list F.slot_list_append F.type_list_append mt_append B.hK isLst_ty isLst_dead mAppend_nd okM_append (B.raw hx hv) ha hbase hpy hline he rfl
theorem Bd.extend (B : Bd X c k N sc ios vi lo gl bl) (hx : N[i]? = some x) (hv : i ∈ vi) (ha : PA X [e] (tAs c fs)) (hbase : attributeBase (.Name x p) "extend" X.env (eval (.Name x p) X.env) = eval (.Name x p) X.env := by rfl)
    (hpy : ((backTo cpos (starEach [e] X.env)).all (!·.1) && (backToKw cpos (keywordEach [] X.env)).all (·.1.isSome) && decide (([e] : List Expr).length + ([] : List Keyword).length + (if ([] : List Keyword).isEmpty then 0 else 1) < 30)) = true := by rfl)
    (hline : (apos.endLine == cpos.line) = true := by rfl) (he : starEach [e] X.env = (false, eval e X.env) :: starEach [] X.env := by rfl) : PE X (.Call (.Attribute (.Name x p) "extend" apos) [e] [] cpos) (tV c (cMut i isLst mExtend fs)) :=
  se_mut F.plainAttrs_list F.slot_list_extend F.type_list_extend mt_extend B.hK isLst_ty isLst_dead mExtend_nd okM_extend (B.raw hx hv) ha hbase hpy hline he rfl
/-! stores -/
theorem Bd.setD (B : Bd X c k N sc ios vi lo gl bl) {fk fe : CE} {k0 : Expr} {pos' : Pos} (hx : N[i]? = some x) (hv : i ∈ vi) (hk : PE X k0 (tV c fk)) (he : PE X e (tV c fe)) (hs : swapsWith e (some (.Subscript (.Name x p) k0 pos')) pos.line X.env = pure false := by rfl) :
    PS X (.Assign [.Subscript (.Name x p) k0 pos'] e pos) (tS c (sSet i mSetD fe fk)) := ss_setD B.hu1 (B.raw hx hv) hk he hs
theorem Bd.setL (B : Bd X c k N sc ios vi lo gl bl) {fk fe : CE} {k0 : Expr} {pos' : Pos} (hx : N[i]? = some x) (hv : i ∈ vi) (hk : PE X k0 (tV c fk)) (he : PE X e (tV c fe)) (hs : swapsWithSole [.Subscript (.Name x p) k0 pos'] e pos.line X.env = pure false := by rfl) (hw : swappedStores [.Subscript (.Name x p) k0 pos'] e X.env = pure none := by rfl)
    (h1 : (assignEach [.Subscript (.Name x p) k0 pos'] X.env).map (·.2) = [assign (.Subscript (.Name x p) k0 pos') X.env] := by rfl)
    (ha : ∀ v, assign (.Subscript (.Name x p) k0 pos') X.env v = (do
      let ov ← holding [v] (eval (.Name x p) X.env)
      let iv ← holding [v, ov] (eval k0 X.env)
      standAt pos'; holding [v, ov, iv] (setItem ov iv v); release [v, ov, iv] []) := by intro _; rfl) :
    PS X (.Assign [.Subscript (.Name x p) k0 pos'] e pos) (tS c (sSet i mSetL fe fk)) := ss_setL (B.raw hx hv) hk he hs hw h1 ha
end
end VL

set_option Elab.async false
set_option maxRecDepth 100000
/-! VP: the mirrors, worked out: rules that simp takes. -/
namespace VL
open PySem L2 PySem.Spec

theorem nd {α : Sort _} {a b : α} (h : a = b) : a = b := h
def oE (o : Option D) (e : List D) : RE := match o with
  | some z => .ok z e
  | none => .bad
@[simp] theorem oE_some (z : D) (e : List D) : oE (some z) e = .ok z e := nd rfl
@[simp] theorem oE_none (e : List D) : oE none e = .bad := nd rfl
def kApp (f : List D → Option D) (ds e : List D) : RE := oE (f ds) e
@[simp] theorem kApp_eq (f : List D → Option D) (ds e : List D) : kApp f ds e = oE (f ds) e := nd rfl
@[simp] theorem ev_app (f : List D → Option D) (fs : List CE) (env : List D) : cApp f fs env = (evA fs env).bind (kApp f) := nd rfl
def kA2 (d : D) (ds e : List D) : RA := .ok (d :: ds) e
@[simp] theorem kA2_eq (d : D) (ds e : List D) : kA2 d ds e = .ok (d :: ds) e := nd rfl
def kA (fs : List CE) (d : D) (e : List D) : RA := (evA fs e).bindA (kA2 d)
@[simp] theorem kA_eq (fs : List CE) (d : D) (e : List D) : kA fs d e = (evA fs e).bindA (kA2 d) := nd rfl
@[simp] theorem ev_nil (env : List D) : evA [] env = .ok [] env := nd rfl
@[simp] theorem ev_cons (f : CE) (fs : List CE) (env : List D) : evA (f :: fs) env = (f env).bindA (kA fs) := nd rfl
def oV (o : Option D) (env : List D) : RE := match o with
  | some d => if d.own || d.isDead then .bad else .ok d env
  | none => .bad
@[simp] theorem oV_none (env : List D) : oV none env = .bad := nd rfl
theorem oV_some (d : D) (env : List D) (h1 : d.own = false) (h2 : d.isDead = false) : oV (some d) env = .ok d env := by simp [oV, h1, h2]
@[simp] theorem ev_var (i : Nat) (env : List D) : cVar i env = oV env[i]? env := by
  unfold cVar oV
  cases env[i]? <;> rfl
def oT (o : Option D) (env : List D) (i : Nat) : RE := match o with
  | some d => if d.isDead then .bad else .ok d (env.set i .dead)
  | none => .bad
@[simp] theorem oT_none (env : List D) (i : Nat) : oT none env i = .bad := nd rfl
theorem oT_some (d : D) (env : List D) (i : Nat) (h2 : d.isDead = false) : oT (some d) env i = .ok d (env.set i .dead) := by simp [oT, h2]
@[simp] theorem ev_take (i : Nat) (env : List D) : cTake i env = oT env[i]? env i := by
  unfold cTake oT
  cases env[i]? <;> rfl
@[simp] theorem ev_k (d : D) (env : List D) : cK d env = .ok d env := nd rfl
/-! loans -/
def loanE (fz : List Nat) (env : List D) : RE → RE
  | .ok d e => if d.fz then .bad else .ok d (mrg fz 0 env e)
  | .exc x e => if x.fz then .bad else .exc x (mrg fz 0 env e)
  | .bad => .bad
@[simp] theorem ev_loan (fz : List Nat) (f : CE) (env : List D) : cLoan fz f env = loanE fz env (f (frzI fz 0 env)) := by
  unfold cLoan loanE
  cases f (frzI fz 0 env) <;> rfl
@[simp] theorem loanE_ok (fz : List Nat) (env : List D) (d : D) (e : List D) : loanE fz env (.ok d e) = if d.fz = true then .bad else .ok d (mrg fz 0 env e) := nd rfl
@[simp] theorem loanE_exc (fz : List Nat) (env : List D) (x : Xc) (e : List D) : loanE fz env (.exc x e) = if x.fz = true then .bad else .exc x (mrg fz 0 env e) := nd rfl
@[simp] theorem ev_freeze (fz : List Nat) (f : CE) (env : List D) : cFreeze fz f env = f (frzI fz 0 env) := nd rfl
def frz1 (b : Bool) (d : D) : D := if b then d.frz else d
@[simp] theorem frz1_t (d : D) : frz1 true d = d.frz := nd rfl
@[simp] theorem frz1_f (d : D) : frz1 false d = d := nd rfl
@[simp] theorem frzI_nil (fz : List Nat) (n : Nat) : frzI fz n [] = [] := nd rfl
@[simp] theorem frzI_cons (fz : List Nat) (n : Nat) (d : D) (ds : List D) : frzI fz n (d :: ds) = frz1 (fz.contains n) d :: frzI fz (n + 1) ds := nd rfl
def mrg1 (b : Bool) (d x : D) : D := if b then d else if x.fz = false then x else if D.eqb x d && !x.own then x else .dead
@[simp] theorem mrg1_t (d x : D) : mrg1 true d x = d := nd rfl
theorem mrg1_same (x : D) (h : x.own = false) : mrg1 false x x = x := by
  unfold mrg1
  simp [h, D.eqb_refl]
theorem mrg1_fz (d x : D) (h : x.fz = false) : mrg1 false d x = x := by
  unfold mrg1
  simp [h]
@[simp] theorem mrg1_dead (d : D) : mrg1 false d .dead = .dead := nd rfl
@[simp] theorem mrg_nil (fz : List Nat) (n : Nat) (xs : List D) : mrg fz n [] xs = [] := by cases xs <;> rfl
@[simp] theorem mrg_cons (fz : List Nat) (n : Nat) (d x : D) (ds xs : List D) : mrg fz n (d :: ds) (x :: xs) = mrg1 (fz.contains n) d x :: mrg fz (n + 1) ds xs := nd rfl
/-! and, or, not, if -/
def kAnd (g : CE) (d : D) (e : List D) : RE := match d with
  | .bl true => g e
  | .bl false => .ok (.bl false) e
  | _ => .bad
def kOr (g : CE) (d : D) (e : List D) : RE := match d with
  | .bl true => .ok (.bl true) e
  | .bl false => g e
  | _ => .bad
def kNot (d : D) (e : List D) : RE := match d with
  | .bl b => .ok (.bl (!b)) e
  | _ => .bad
def kIte (f g : CE) (d : D) (e : List D) : RE := match d with
  | .bl true => f e
  | .bl false => g e
  | _ => .bad
@[simp] theorem kAnd_t (g : CE) (e : List D) : kAnd g (.bl true) e = g e := nd rfl
@[simp] theorem kAnd_f (g : CE) (e : List D) : kAnd g (.bl false) e = .ok (.bl false) e := nd rfl
@[simp] theorem kOr_t (g : CE) (e : List D) : kOr g (.bl true) e = .ok (.bl true) e := nd rfl
@[simp] theorem kOr_f (g : CE) (e : List D) : kOr g (.bl false) e = g e := nd rfl
@[simp] theorem kNot_b (b : Bool) (e : List D) : kNot (.bl b) e = .ok (.bl (!b)) e := nd rfl
@[simp] theorem kIte_t (f g : CE) (e : List D) : kIte f g (.bl true) e = f e := nd rfl
@[simp] theorem kIte_f (f g : CE) (e : List D) : kIte f g (.bl false) e = g e := nd rfl
@[simp] theorem ev_and (f g : CE) (env : List D) : cAnd f g env = (f env).bind (kAnd g) := by
  unfold cAnd
  cases f env with
  | ok d e => cases d <;> first | rfl | (rename_i b; cases b <;> rfl)
  | _ => rfl
@[simp] theorem ev_or (f g : CE) (env : List D) : cOr f g env = (f env).bind (kOr g) := by
  unfold cOr
  cases f env with
  | ok d e => cases d <;> first | rfl | (rename_i b; cases b <;> rfl)
  | _ => rfl
@[simp] theorem ev_not (f : CE) (env : List D) : cNot f env = (f env).bind kNot := by
  unfold cNot
  cases f env with
  | ok d e => cases d <;> rfl
  | _ => rfl
@[simp] theorem ev_ite (t f g : CE) (env : List D) : cIf t f g env = (t env).bind (kIte f g) := by
  unfold cIf
  cases t env with
  | ok d e => cases d <;> first | rfl | (rename_i b; cases b <;> rfl)
  | _ => rfl
/-! methods -/
def kMet (ty : D → Bool) (f : D → List D → Option D) (fs : List CE) (x : D) (e : List D) : RE := if ty x then (evA fs e).bind (fun ds e' => oE (f x ds) e') else .bad
def kMet2 (f : D → List D → Option D) (x : D) (ds e' : List D) : RE := oE (f x ds) e'
@[simp] theorem kMet2_eq (f : D → List D → Option D) (x : D) (ds e' : List D) : kMet2 f x ds e' = oE (f x ds) e' := nd rfl
@[simp] theorem kMet_eq (ty : D → Bool) (f : D → List D → Option D) (fs : List CE) (x : D) (e : List D) : kMet ty f fs x e = if ty x = true then (evA fs e).bind (kMet2 f x) else .bad := nd rfl
@[simp] theorem ev_met (ty : D → Bool) (f : D → List D → Option D) (o : CE) (fs : List CE) (env : List D) : cMet ty f o fs env = (o env).bind (kMet ty f fs) := nd rfl
@[simp] theorem isStr_str (z : Str) : isStr (.str z) = true := nd rfl
/-! isinstance -/
def kIsa (ts : List Ty) (d : D) (e : List D) : RE := if d.tg.typed then .ok (.bl (ts.any fun t => d.tg.isa t)) e else .bad
@[simp] theorem ev_isa (ts : List Ty) (f : CE) (env : List D) : cIsa ts f env = (f env).bind (kIsa ts) := nd rfl
/-! slices -/
def kInt (d : D) (e : List D) : RE := match d with
  | .int i => .ok (.int i) e
  | _ => .bad
@[simp] theorem kInt_i (i : Int) (e : List D) : kInt (.int i) e = .ok (.int i) e := nd rfl
@[simp] theorem ev_int (f : CE) (env : List D) : cInt f env = (f env).bind kInt := by
  unfold cInt
  cases f env with
  | ok d e => cases d <;> rfl
  | _ => rfl
@[simp] theorem ev_sl00 (o : CE) (env : List D) : cSl o none none env = cApp (dSl false false) [o] env := nd rfl
@[simp] theorem ev_sl10 (o a : CE) (env : List D) : cSl o (some a) none env = cApp (dSl true false) [o, cInt a] env := nd rfl
@[simp] theorem ev_sl01 (o a : CE) (env : List D) : cSl o none (some a) env = cApp (dSl false true) [o, cInt a] env := nd rfl
@[simp] theorem ev_sl11 (o a b : CE) (env : List D) : cSl o (some a) (some b) env = cApp (dSl true true) [o, cInt a, cInt b] env := nd rfl
@[simp] theorem sl00 (x : D) : dSl false false [x] = dSlB x none none := nd rfl
@[simp] theorem sl10 (x : D) (i : Int) : dSl true false [x, .int i] = dSlB x (some i) none := nd rfl
@[simp] theorem sl01 (x : D) (i : Int) : dSl false true [x, .int i] = dSlB x none (some i) := nd rfl
@[simp] theorem sl11 (x : D) (i j : Int) : dSl true true [x, .int i, .int j] = dSlB x (some i) (some j) := nd rfl
/-! statements -/
def kAsg (i : Nat) (d : D) (e : List D) : RS := .nx (e.set i d)
@[simp] theorem kAsg_eq (i : Nat) (d : D) (e : List D) : kAsg i d e = .nx (e.set i d) := nd rfl
@[simp] theorem ev_asg (i : Nat) (f : CE) (env : List D) : sAsg i f env = (f env).bindS (kAsg i) := nd rfl
def kExpr (d : D) (e : List D) : RS := .nx e
@[simp] theorem kExpr_eq (d : D) (e : List D) : kExpr d e = .nx e := nd rfl
@[simp] theorem ev_expr (f : CE) (env : List D) : sExpr f env = (f env).bindS kExpr := nd rfl
def kRet (d : D) (e : List D) : RS := .rt d e
@[simp] theorem kRet_eq (d : D) (e : List D) : kRet d e = .rt d e := nd rfl
@[simp] theorem ev_ret (f : CE) (env : List D) : sRet f env = (f env).bindS kRet := nd rfl
@[simp] theorem ev_retN (env : List D) : sRetN env = .rt .non env := nd rfl
@[simp] theorem ev_snil (env : List D) : sNil env = .nx env := nd rfl
@[simp] theorem ev_sbad (env : List D) : sBad env = .bad := nd rfl
@[simp] theorem ev_brk (env : List D) : sBrk env = .bk env := nd rfl
@[simp] theorem ev_cont (env : List D) : sCont env = .ct env := nd rfl
@[simp] theorem ev_seq (a b : CS) (env : List D) : sSeq a b env = (a env).andThen b := nd rfl
@[simp] theorem then_nx (e : List D) (k : CS) : (RS.nx e).andThen k = k e := nd rfl
@[simp] theorem then_rt (d : D) (e : List D) (k : CS) : (RS.rt d e).andThen k = .rt d e := nd rfl
@[simp] theorem then_bk (e : List D) (k : CS) : (RS.bk e).andThen k = .bk e := nd rfl
@[simp] theorem then_ct (e : List D) (k : CS) : (RS.ct e).andThen k = .ct e := nd rfl
@[simp] theorem then_exc (x : Xc) (e : List D) (k : CS) : (RS.exc x e).andThen k = .exc x e := nd rfl
@[simp] theorem then_bad (k : CS) : (RS.bad).andThen k = .bad := nd rfl
def kIf (a b : CS) (d : D) (e : List D) : RS := match d with
  | .bl true => a e
  | .bl false => b e
  | _ => .bad
@[simp] theorem kIf_t (a b : CS) (e : List D) : kIf a b (.bl true) e = a e := nd rfl
@[simp] theorem kIf_f (a b : CS) (e : List D) : kIf a b (.bl false) e = b e := nd rfl
@[simp] theorem ev_sif (t : CE) (a b : CS) (env : List D) : sIf t a b env = (t env).bindS (kIf a b) := by
  unfold sIf
  cases t env with
  | ok d e => cases d <;> first | rfl | (rename_i b; cases b <;> rfl)
  | _ => rfl
def kUnp (is : List Nat) (d : D) (e : List D) : RS := match d with
  | .tup ds => if ds.length = is.length then .nx (setAll is ds e) else .bad
  | .ktp ds => if ds.length = is.length then .nx (setAll is ds e) else .bad
  | _ => .bad
@[simp] theorem kUnp_tup (is : List Nat) (ds e : List D) : kUnp is (.tup ds) e = if ds.length = is.length then .nx (setAll is ds e) else .bad := nd rfl
@[simp] theorem ev_unp (is : List Nat) (f : CE) (env : List D) : sUnp is f env = (f env).bindS (kUnp is) := by
  unfold sUnp
  cases f env with
  | ok d e => cases d <;> rfl
  | _ => rfl
@[simp] theorem setAll_nil (ds e : List D) : setAll [] ds e = e := by cases ds <;> rfl
@[simp] theorem setAll_cons (i : Nat) (is : List Nat) (d : D) (ds e : List D) : setAll (i :: is) (d :: ds) e = setAll is ds (e.set i d) := nd rfl
def kFor (tg : Tr) (body : CS) (items e : List D) : RS := loopF tg body items e
@[simp] theorem kFor_eq (tg : Tr) (body : CS) (items e : List D) : kFor tg body items e = loopF tg body items e := nd rfl
@[simp] theorem ev_for (tg : Tr) (it : List D → RA) (body : CS) (env : List D) : sFor tg it body env = (it env).bindS (kFor tg body) := nd rfl
/-! stores -/
def kSet2 (i : Nat) (m : D → List D → Option (D × D)) (d k : D) (e2 : List D) : RS := match e2[i]? with
  | some o => match m o [k, d] with
    | some (_, o') => .nx (e2.set i o')
    | none => .bad
  | none => .bad
def oM (r : Option (D × D)) (i : Nat) (e : List D) : RS := match r with
  | some p => .nx (e.set i p.2)
  | none => .bad
@[simp] theorem oM_some (p : D × D) (i : Nat) (e : List D) : oM (some p) i e = .nx (e.set i p.2) := nd rfl
def oS (o : Option D) (i : Nat) (m : D → List D → Option (D × D)) (d k : D) (e : List D) : RS := match o with
  | some o => oM (m o [k, d]) i e
  | none => .bad
@[simp] theorem oS_some (o : D) (i : Nat) (m : D → List D → Option (D × D)) (d k : D) (e : List D) : oS (some o) i m d k e = oM (m o [k, d]) i e := nd rfl
@[simp] theorem kSet2_eq (i : Nat) (m : D → List D → Option (D × D)) (d k : D) (e2 : List D) : kSet2 i m d k e2 = oS e2[i]? i m d k e2 := by
  unfold kSet2 oS
  cases e2[i]? with
  | none => rfl
  | some o => simp only; cases m o [k, d] <;> rfl
def kSet1 (i : Nat) (m : D → List D → Option (D × D)) (fk : CE) (d : D) (e : List D) : RS := (fk e).bindS (kSet2 i m d)
@[simp] theorem kSet1_eq (i : Nat) (m : D → List D → Option (D × D)) (fk : CE) (d : D) (e : List D) : kSet1 i m fk d e = (fk e).bindS (kSet2 i m d) := nd rfl
def oSet (o : Option D) (r : RS) : RS := match o with
  | some d => if d.isDead then .bad else r
  | none => .bad
theorem oSet_some (d : D) (r : RS) (h : d.isDead = false) : oSet (some d) r = r := by simp [oSet, h]
@[simp] theorem ev_set (i : Nat) (m : D → List D → Option (D × D)) (fe fk : CE) (env : List D) : sSet i m fe fk env = oSet env[i]? ((fe env).bindS (kSet1 i m fk)) := by
  unfold sSet oSet
  cases env[i]? <;> rfl
/-! x.m(..) -/
def oM2 (r : Option (D × D)) (i : Nat) (e : List D) : RE := match r with
  | some p => .ok p.1 (e.set i p.2)
  | none => .bad
@[simp] theorem oM2_some (p : D × D) (i : Nat) (e : List D) : oM2 (some p) i e = .ok p.1 (e.set i p.2) := nd rfl
def oMu (o : Option D) (i : Nat) (m : D → List D → Option (D × D)) (ds e : List D) : RE := match o with
  | some d => oM2 (m d ds) i e
  | none => .bad
@[simp] theorem oMu_some (d : D) (i : Nat) (m : D → List D → Option (D × D)) (ds e : List D) : oMu (some d) i m ds e = oM2 (m d ds) i e := nd rfl
def kMut (i : Nat) (m : D → List D → Option (D × D)) (ds e : List D) : RE := oMu e[i]? i m ds e
@[simp] theorem kMut_eq (i : Nat) (m : D → List D → Option (D × D)) (ds e : List D) : kMut i m ds e = oMu e[i]? i m ds e := nd rfl
def oTy (o : Option D) (ty : D → Bool) (r : RE) : RE := match o with
  | some d => if ty d then r else .bad
  | none => .bad
@[simp] theorem oTy_some (d : D) (ty : D → Bool) (r : RE) : oTy (some d) ty r = if ty d = true then r else .bad := nd rfl
@[simp] theorem ev_mut (i : Nat) (ty : D → Bool) (m : D → List D → Option (D × D)) (fs : List CE) (env : List D) : cMut i ty m fs env = oTy env[i]? ty ((evA fs env).bind (kMut i m)) := by
  unfold cMut oTy
  cases env[i]? with
  | none => rfl
  | some d0 =>
    simp only
    split
    · congr 1
      funext ds e
      unfold kMut oMu oM2
      cases e[i]? with
      | none => rfl
      | some d => simp only; cases m d ds <;> rfl
    · rfl
@[simp] theorem isLst_t (xs : List D) : isLst (.lst true xs) = true := nd rfl
/-! calls -/
def oC (r : FR) (ios : List Nat) (as : List Ar) (e : List D) : RE := match r with
  | .ok d outs => .ok d (putB ios as outs e)
  | .exc x outs => .exc x (putB ios as outs e)
  | .bad => .bad
@[simp] theorem oC_ok (d : D) (outs : List D) (ios : List Nat) (as : List Ar) (e : List D) : oC (.ok d outs) ios as e = .ok d (putB ios as outs e) := nd rfl
@[simp] theorem oC_exc (x : Xc) (outs : List D) (ios : List Nat) (as : List Ar) (e : List D) : oC (.exc x outs) ios as e = .exc x (putB ios as outs e) := nd rfl
def kCall (ios : List Nat) (f : Fn) (as : List Ar) (ds e : List D) : RE := oC (f ds) ios as e
@[simp] theorem kCall_eq (ios : List Nat) (f : Fn) (as : List Ar) (ds e : List D) : kCall ios f as ds e = oC (f ds) ios as e := nd rfl
@[simp] theorem ev_call (ios : List Nat) (f : Fn) (as : List Ar) (env : List D) : cCall ios f as env = (evA (as.map Ar.ev) env).bind (kCall ios f as) := by
  unfold cCall evR
  congr 1
@[simp] theorem Ar_l (f : CE) : Ar.ev (.inl f) = f := nd rfl
@[simp] theorem Ar_r (i : Nat) : Ar.ev (.inr i) = cTake i := nd rfl
@[simp] theorem putB_nil (as : List Ar) (os e : List D) : putB [] as os e = e := by cases os <;> rfl
def putO (a : Option Ar) (o : D) (e : List D) : List D := match a with
  | some (.inr j) => e.set j o
  | _ => e
@[simp] theorem putO_r (j : Nat) (o : D) (e : List D) : putO (some (.inr j)) o e = e.set j o := nd rfl
@[simp] theorem putO_l (f : CE) (o : D) (e : List D) : putO (some (.inl f)) o e = e := nd rfl
@[simp] theorem putB_cons (i : Nat) (is : List Nat) (as : List Ar) (o : D) (os e : List D) : putB (i :: is) as (o :: os) e = putB is as os (putO as[i]? o e) := by
  show (match as[i]? with | some (.inr j) => putB is as os (e.set j o) | _ => putB is as os e) = _
  unfold putO
  split <;> rfl
/-! a def -/
def oR (r : RS) (ios : List Nat) : FR := match r with
  | .rt d e => if (outsOf ios e).any D.isDead then .bad else .ok d (outsOf ios e)
  | .nx e => if (outsOf ios e).any D.isDead then .bad else .ok .non (outsOf ios e)
  | .exc x e => if (outsOf ios e).any D.isDead then .bad else .exc x (outsOf ios e)
  | _ => .bad
@[simp] theorem oR_rt (d : D) (e : List D) (ios : List Nat) : oR (.rt d e) ios = if (outsOf ios e).any D.isDead = true then .bad else .ok d (outsOf ios e) := nd rfl
@[simp] theorem oR_nx (e : List D) (ios : List Nat) : oR (.nx e) ios = if (outsOf ios e).any D.isDead = true then .bad else .ok .non (outsOf ios e) := nd rfl
@[simp] theorem oR_exc (x : Xc) (e : List D) (ios : List Nat) : oR (.exc x e) ios = if (outsOf ios e).any D.isDead = true then .bad else .exc x (outsOf ios e) := nd rfl
theorem runF_eq (np nl : Nat) (ios : List Nat) (b : CS) (ds : List D) (h : ds.length = np) : runF np nl ios b ds = oR (b (ds ++ List.replicate nl .dead)) ios := by
  unfold runF oR
  exact (if_pos h).trans (by cases b (ds ++ List.replicate nl .dead) <;> rfl)
@[simp] theorem runF1 (nl : Nat) (ios : List Nat) (b : CS) (x : D) : runF 1 nl ios b [x] = oR (b (x :: List.replicate nl .dead)) ios := runF_eq 1 nl ios b [x] rfl
@[simp] theorem runF2 (nl : Nat) (ios : List Nat) (b : CS) (x y : D) : runF 2 nl ios b [x, y] = oR (b (x :: y :: List.replicate nl .dead)) ios := runF_eq 2 nl ios b [x, y] rfl
@[simp] theorem runF3 (nl : Nat) (ios : List Nat) (b : CS) (x y z : D) : runF 3 nl ios b [x, y, z] = oR (b (x :: y :: z :: List.replicate nl .dead)) ios := runF_eq 3 nl ios b [x, y, z] rfl
@[simp] theorem runF4 (nl : Nat) (ios : List Nat) (b : CS) (x y z u : D) : runF 4 nl ios b [x, y, z, u] = oR (b (x :: y :: z :: u :: List.replicate nl .dead)) ios := runF_eq 4 nl ios b [x, y, z, u] rfl
@[simp] theorem runF5 (nl : Nat) (ios : List Nat) (b : CS) (x y z u v : D) : runF 5 nl ios b [x, y, z, u, v] = oR (b (x :: y :: z :: u :: v :: List.replicate nl .dead)) ios := runF_eq 5 nl ios b [x, y, z, u, v] rfl
@[simp] theorem rep0' (x : D) : List.replicate 0 x = [] := nd rfl
@[simp] theorem repS (n : Nat) (x : D) : List.replicate (n + 1) x = x :: List.replicate n x := nd rfl
@[simp] theorem outs_nil (e : List D) : outsOf [] e = [] := nd rfl
@[simp] theorem outs_cons (i : Nat) (is : List Nat) (e : List D) : outsOf (i :: is) e = e.getD i .dead :: outsOf is e := nd rfl
/-! what walks -/
def oI (o : Option (List D)) (e : List D) : RA := match o with
  | some xs => .ok xs e
  | none => .bad
@[simp] theorem oI_some (xs e : List D) : oI (some xs) e = .ok xs e := nd rfl
def kVal (d : D) (e : List D) : RA := oI (itemsOf d) e
@[simp] theorem kVal_eq (d : D) (e : List D) : kVal d e = oI (itemsOf d) e := nd rfl
@[simp] theorem ev_ival (f : CE) (env : List D) : iVal f env = (f env).bindA kVal := by
  unfold iVal
  cases f env with
  | ok d e =>
    show (match itemsOf d with | some xs => RA.ok xs e | none => .bad) = oI (itemsOf d) e
    generalize itemsOf d = o
    cases o <;> rfl
  | _ => rfl
def kIof (g : List D → Option (List D)) (ds e : List D) : RA := oI (g ds) e
@[simp] theorem kIof_eq (g : List D → Option (List D)) (ds e : List D) : kIof g ds e = oI (g ds) e := nd rfl
@[simp] theorem ev_iof (g : List D → Option (List D)) (fs : List CE) (env : List D) : iOf g fs env = (evA fs env).bindA (kIof g) := by
  unfold iOf
  cases evA fs env with
  | ok ds e =>
    show (match g ds with | some xs => RA.ok xs e | none => .bad) = oI (g ds) e
    generalize g ds = o
    cases o <;> rfl
  | _ => rfl
@[simp] theorem items_lst (o : Bool) (xs : List D) : itemsOf (.lst o xs) = some (frzL xs) := nd rfl
@[simp] theorem items_tup (xs : List D) : itemsOf (.tup xs) = some (frzL xs) := nd rfl
@[simp] theorem items_str (z : Str) : itemsOf (.str z) = some (chars z) := nd rfl
/-! list comprehensions -/
def oL (r : RA) : RE := match r with
  | .ok ys e => .ok (.lst true ys) e
  | _ => .bad
@[simp] theorem oL_ok (ys e : List D) : oL (.ok ys e) = .ok (.lst true ys) e := nd rfl
def kLc (own : List Nat) (tg : Tr) (cond elt : CE) (items e : List D) : RE := if items.length < sizeLine then oL (lcG own tg cond elt items (killL own e)) else .bad
@[simp] theorem kLc_eq (own : List Nat) (tg : Tr) (cond elt : CE) (items e : List D) : kLc own tg cond elt items e = if items.length < sizeLine then oL (lcG own tg cond elt items (killL own e)) else .bad := nd rfl
@[simp] theorem ev_lc (own : List Nat) (it : List D → RA) (tg : Tr) (cond elt : CE) (env : List D) : cLc own it tg cond elt env = (it env).bind (kLc own tg cond elt) := by
  unfold cLc
  congr 1
@[simp] theorem killL_nil (e : List D) : killL [] e = e := nd rfl
@[simp] theorem killL_cons (i : Nat) (is : List Nat) (e : List D) : killL (i :: is) e = (killL is e).set i .dead := nd rfl
@[simp] theorem ev_true (env : List D) : cTrue env = .ok (.bl true) env := nd rfl
/-! chains -/
@[simp] theorem ev_newK (env : List D) : cNewK env = .ok (.dk true [] []) env := nd rfl
@[simp] theorem ev_newT (env : List D) : cNewT env = .ok (.dt true [] []) env := nd rfl
end VL

set_option Elab.async false
set_option maxRecDepth 100000
/-! VQ: the operations, worked out. -/
namespace VL
open PySem L2 PySem.Spec

theorem szL : sizeLine = 16777216 := by decide
theorem szN {n : Nat} (h : n ≤ 1000000) : n ≤ sizeLine := by rw [szL]; omega
theorem szN' {n : Nat} (h : n ≤ 1000000) : n < sizeLine := by rw [szL]; omega
/-! rows -/
theorem atI_nat' {α : Type} (xs : List α) (n : Nat) : atI xs (n : Int) = xs[n]? := by
  unfold atI ixN
  rw [if_pos (Int.natCast_nonneg n)]
  by_cases h : n < xs.length
  · rw [if_pos (by omega)]; simp
  · rw [if_neg (by omega)]; simp [List.getElem?_eq_none (Nat.le_of_not_lt h)]
@[simp] theorem atI_0 {α : Type} (xs : List α) : atI xs 0 = xs[0]? := atI_nat' xs 0
@[simp] theorem atI_1 {α : Type} (xs : List α) : atI xs 1 = xs[1]? := atI_nat' xs 1
@[simp] theorem atI_2 {α : Type} (xs : List α) : atI xs 2 = xs[2]? := atI_nat' xs 2
@[simp] theorem atI_3 {α : Type} (xs : List α) : atI xs 3 = xs[3]? := atI_nat' xs 3
@[simp] theorem atI_m1 {α : Type} (xs : List α) : atI xs (-1) = xs.getLast? := by
  unfold atI ixN
  rw [if_neg (by decide)]
  cases xs with
  | nil => rfl
  | cons x xs =>
    rw [if_pos (by simp; omega)]
    rw [List.getLast?_eq_getElem?]
    show (x :: xs)[(-1 + ((x :: xs).length : Int)).toNat]? = _
    congr 1
    simp only [List.length_cons]
    omega
theorem atI_get' {α : Type} (xs : List α) (i : Int) (h0 : 0 ≤ i) : atI xs i = xs[i.toNat]? := by
  have q := atI_nat' xs i.toNat
  rw [Int.toNat_of_nonneg h0] at q
  exact q
@[simp] theorem ix_lst (o : Bool) (xs : List D) (i : Int) : dIx [.lst o xs, .int i] = atI xs i := nd rfl
@[simp] theorem ix_tup (xs : List D) (i : Int) : dIx [.tup xs, .int i] = atI xs i := nd rfl
/-! arithmetic -/
@[simp] theorem add_ii (i j : Int) : dAdd [.int i, .int j] = some (.int (i + j)) := nd rfl
theorem add_ss (x y : Str) (h : x.length + y.length ≤ sizeLine) : dAdd [.str x, .str y] = some (.str (x ++ y)) := by
  show (if _ then _ else _) = _
  rw [if_pos h]
theorem add_ll (o p : Bool) (xs ys : List D) (h : xs.length + ys.length ≤ sizeLine) : dAdd [.lst o xs, .lst p ys] = some (.lst true (xs ++ ys)) := by
  show (if _ then _ else _) = _
  rw [if_pos h]
theorem add_tt (xs ys : List D) (h : xs.length + ys.length ≤ sizeLine) : dAdd [.tup xs, .tup ys] = some (.tup (xs ++ ys)) := by
  show (if _ then _ else _) = _
  rw [if_pos h]
@[simp] theorem sub_ii (i j : Int) : dSub [.int i, .int j] = some (.int (i - j)) := nd rfl
@[simp] theorem neg_i (i : Int) : dNeg [.int i] = some (.int (-i)) := nd rfl
theorem mul_l (i j : Int) (h1 : -18446744073709551616 < i) (h2 : i < 18446744073709551616) : dMul [.int i, .int j] = some (.int (i * j)) := by
  show (if _ then _ else _) = _
  rw [if_pos (.inl ⟨h1, h2⟩)]
theorem mul_r (i j : Int) (h1 : -18446744073709551616 < j) (h2 : j < 18446744073709551616) : dMul [.int i, .int j] = some (.int (i * j)) := by
  show (if _ then _ else _) = _
  rw [if_pos (.inr ⟨h1, h2⟩)]
theorem mod_p (i j : Int) (h : 0 < j) : dMod [.int i, .int j] = some (.int (i % j)) := by
  show (if _ then _ else _) = _
  rw [if_pos (by omega), Int.fmod_eq_emod_of_nonneg _ (by omega)]
theorem div_p (i j : Int) (h : 0 < j) (h2 : j < 18446744073709551616) : dDiv [.int i, .int j] = some (.int (i / j)) := by
  show (if _ then _ else _) = _
  have h3 : j.natAbs.log2 < 64 := by
    have h4 : j.natAbs < 2 ^ 64 := by omega
    exact (Nat.log2_lt (by omega)).mpr h4
  rw [if_pos ⟨h, by omega⟩]
theorem pow_p (i j : Int) (h : 0 ≤ j) (h1 : j ≤ 1000000) (h2 : i.natAbs < 18446744073709551616) : dPow [.int i, .int j] = some (.int (i ^ j.toNat)) := by
  show (if _ then _ else _) = _
  rw [if_pos ⟨h, h1, h2⟩]
@[simp] theorem max_ii (i j : Int) : dMax [.int i, .int j] = some (.int (max i j)) := by
  show some (D.int (if j > i then j else i)) = _
  congr 2
  split <;> omega
@[simp] theorem min_ii (i j : Int) : dMin [.int i, .int j] = some (.int (min i j)) := by
  show some (D.int (if j < i then j else i)) = _
  congr 2
  split <;> omega
theorem beqI (i j : Int) : (i == j) = decide (i = j) := by by_cases h : i = j <;> simp [h]
/-! comparisons -/
@[simp] theorem lt_ii (i j : Int) : dLt [.int i, .int j] = some (.bl (decide (i < j))) := nd rfl
@[simp] theorem le_ii (i j : Int) : dLe [.int i, .int j] = some (.bl (decide (i ≤ j))) := nd rfl
@[simp] theorem gt_ii (i j : Int) : dGt [.int i, .int j] = some (.bl (decide (j < i))) := nd rfl
@[simp] theorem ge_ii (i j : Int) : dGe [.int i, .int j] = some (.bl (decide (j ≤ i))) := nd rfl
@[simp] theorem eq_ii (i j : Int) : dEq [.int i, .int j] = some (.bl (decide (i = j))) := by
  simp [dEq, D.okD, deq, D.dat, PyData.eqv, beqI]
@[simp] theorem ne_ii (i j : Int) : dNe [.int i, .int j] = some (.bl (!decide (i = j))) := by
  simp [dNe, D.okD, deq, D.dat, PyData.eqv, beqI]
theorem beqS (i j : Str) : (i == j) = decide (i = j) := by by_cases h : i = j <;> simp [h]
theorem eq_ss (i j : Str) (h1 : PyData.strOk i = true) (h2 : PyData.strOk j = true) : dEq [.str i, .str j] = some (.bl (decide (i = j))) := by
  simp [dEq, D.okD, deq, D.dat, PyData.eqv, h1, h2, beqS]
theorem ne_ss (i j : Str) (h1 : PyData.strOk i = true) (h2 : PyData.strOk j = true) : dNe [.str i, .str j] = some (.bl (!decide (i = j))) := by
  simp [dNe, D.okD, deq, D.dat, PyData.eqv, h1, h2, beqS]
@[simp] theorem toInt_i (i : Int) : dToInt [.int i] = some (.int i) := nd rfl
@[simp] theorem toInt_b (b : Bool) : dToInt [.bl b] = some (.int (if b = true then 1 else 0)) := nd rfl
theorem range1 (n : Int) (h0 : -1000000 ≤ n) (h1 : n ≤ 1000000) : gRange1 [.int n] = some ((List.range n.toNat).map fun (i : Nat) => D.int i) := by
  show (if _ then _ else _) = _
  rw [if_pos (by omega)]
theorem range2 (m n : Int) (h0 : -1000000 ≤ m) (h1 : m ≤ 1000000) (h2 : -1000000 ≤ n) (h3 : n ≤ 1000000) : gRange2 [.int m, .int n] = some ((List.range (n - m).toNat).map fun (i : Nat) => D.int (m + i)) := by
  show (if _ then _ else _) = _
  rw [if_pos (by omega)]
theorem toTup_l (o : Bool) (xs : List D) (h : ownL xs = false) : dToTup [.lst o xs] = some (.tup xs) := by
  show (if _ then _ else _) = _
  rw [h]
  rfl
@[simp] theorem toTup_t (xs : List D) : dToTup [.tup xs] = some (.tup xs) := nd rfl
theorem toLst_l (o : Bool) (xs : List D) (h : ownL xs = false) : dToLst [.lst o xs] = some (.lst true xs) := by
  show (if _ then _ else _) = _
  rw [h]
  rfl
theorem toLst_t (xs : List D) (h : ownL xs = false) : dToLst [.tup xs] = some (.lst true xs) := by
  show (if _ then _ else _) = _
  rw [h]
  rfl
/-! rows made -/
@[simp] theorem lst_0 : dLst [] = some (.lst true []) := by simp [dLst, szL]
theorem lst_n (ds : List D) (h : ds.length ≤ 1000000) : dLst ds = some (.lst true ds) := by simp [dLst, szN h]
theorem tup_n (ds : List D) (h : ds.length ≤ 1000000) : dTup ds = some (.tup ds) := by simp [dTup, szN h]
@[simp] theorem len_l (o : Bool) (xs : List D) : dLen [.lst o xs] = some (.int xs.length) := nd rfl
@[simp] theorem len_t (xs : List D) : dLen [.tup xs] = some (.int xs.length) := nd rfl
theorem len_s (z : Str) (h : z.length ≤ 1000000) : dLen [.str z] = some (.int z.length) := by simp [dLen, szN h]
/-! frozen, owned -/
@[simp] theorem frzL_nil : frzL [] = [] := nd rfl
@[simp] theorem frzL_cons (d : D) (ds : List D) : frzL (d :: ds) = d.frz :: frzL ds := nd rfl
@[simp] theorem fzL_nil : fzL [] = false := nd rfl
@[simp] theorem fzL_cons (d : D) (ds : List D) : fzL (d :: ds) = (d.fz || fzL ds) := nd rfl
@[simp] theorem ownL_nil : ownL [] = false := nd rfl
@[simp] theorem ownL_cons (d : D) (ds : List D) : ownL (d :: ds) = (d.own || ownL ds) := nd rfl
theorem frzL_map {α : Type} (g : α → D) (h : ∀ x, (g x).frz = g x) : ∀ xs : List α, frzL (xs.map g) = xs.map g
  | [] => rfl
  | x :: xs => by simp [h x, frzL_map g h xs]
theorem fzL_map {α : Type} (g : α → D) (h : ∀ x, (g x).fz = false) : ∀ xs : List α, fzL (xs.map g) = false
  | [] => rfl
  | x :: xs => by simp [h x, fzL_map g h xs]
theorem ownL_map {α : Type} (g : α → D) (h : ∀ x, (g x).own = false) : ∀ xs : List α, ownL (xs.map g) = false
  | [] => rfl
  | x :: xs => by simp [h x, ownL_map g h xs]
section
variable (i : Int) (b o : Bool) (z : Str) (xs : List D)
@[simp] theorem frz_non : D.frz .non = .non := nd rfl
@[simp] theorem frz_i : D.frz (.int i) = .int i := nd rfl
@[simp] theorem frz_b : D.frz (.bl b) = .bl b := nd rfl
@[simp] theorem frz_s : D.frz (.str z) = .str z := nd rfl
@[simp] theorem frz_d : D.frz .dead = .dead := nd rfl
@[simp] theorem frz_t : D.frz (.tup xs) = .tup (frzL xs) := nd rfl
@[simp] theorem frz_l : D.frz (.lst o xs) = .lst false (frzL xs) := nd rfl
@[simp] theorem frz_dk (ks : List Key) : D.frz (.dk o ks xs) = .dk false ks (frzL xs) := nd rfl
@[simp] theorem frz_dt (ks : List (List Key)) : D.frz (.dt o ks xs) = .dt false ks (frzL xs) := nd rfl
@[simp] theorem fz_non : D.fz .non = false := nd rfl
@[simp] theorem fz_i : D.fz (.int i) = false := nd rfl
@[simp] theorem fz_b : D.fz (.bl b) = false := nd rfl
@[simp] theorem fz_s : D.fz (.str z) = false := nd rfl
@[simp] theorem fz_d : D.fz .dead = false := nd rfl
@[simp] theorem fz_t : D.fz (.tup xs) = fzL xs := nd rfl
@[simp] theorem fz_l : D.fz (.lst o xs) = (!o || fzL xs) := nd rfl
@[simp] theorem fz_dk (ks : List Key) : D.fz (.dk o ks xs) = (!o || fzL xs) := nd rfl
@[simp] theorem fz_dt (ks : List (List Key)) : D.fz (.dt o ks xs) = (!o || fzL xs) := nd rfl
@[simp] theorem own_non : D.own .non = false := nd rfl
@[simp] theorem own_i : D.own (.int i) = false := nd rfl
@[simp] theorem own_b : D.own (.bl b) = false := nd rfl
@[simp] theorem own_s : D.own (.str z) = false := nd rfl
@[simp] theorem own_d : D.own .dead = false := nd rfl
@[simp] theorem own_t : D.own (.tup xs) = ownL xs := nd rfl
@[simp] theorem own_l : D.own (.lst o xs) = (o || ownL xs) := nd rfl
@[simp] theorem own_dk (ks : List Key) : D.own (.dk o ks xs) = (o || ownL xs) := nd rfl
@[simp] theorem own_dt (ks : List (List Key)) : D.own (.dt o ks xs) = (o || ownL xs) := nd rfl
@[simp] theorem dead_non : D.isDead .non = false := nd rfl
@[simp] theorem dead_i : D.isDead (.int i) = false := nd rfl
@[simp] theorem dead_b : D.isDead (.bl b) = false := nd rfl
@[simp] theorem dead_s : D.isDead (.str z) = false := nd rfl
@[simp] theorem dead_d : D.isDead .dead = true := nd rfl
@[simp] theorem dead_t : D.isDead (.tup xs) = false := nd rfl
@[simp] theorem dead_l : D.isDead (.lst o xs) = false := nd rfl
@[simp] theorem dead_dk (ks : List Key) : D.isDead (.dk o ks xs) = false := nd rfl
@[simp] theorem dead_dt (ks : List (List Key)) : D.isDead (.dt o ks xs) = false := nd rfl
@[simp] theorem oV_non (e : List D) : oV (some .non) e = .ok .non e := nd rfl
@[simp] theorem oV_i (e : List D) : oV (some (.int i)) e = .ok (.int i) e := nd rfl
@[simp] theorem oV_b (e : List D) : oV (some (.bl b)) e = .ok (.bl b) e := nd rfl
@[simp] theorem oV_s (e : List D) : oV (some (.str z)) e = .ok (.str z) e := nd rfl
end
@[simp] theorem oV_t (xs e : List D) (h : ownL xs = false) : oV (some (.tup xs)) e = .ok (.tup xs) e := oV_some _ _ h rfl
@[simp] theorem oV_l (xs e : List D) (h : ownL xs = false) : oV (some (.lst false xs)) e = .ok (.lst false xs) e := oV_some _ _ h rfl
@[simp] theorem oV_dk (ks : List Key) (xs e : List D) (h : ownL xs = false) : oV (some (.dk false ks xs)) e = .ok (.dk false ks xs) e := oV_some _ _ h rfl
@[simp] theorem oV_dt (ks : List (List Key)) (xs e : List D) (h : ownL xs = false) : oV (some (.dt false ks xs)) e = .ok (.dt false ks xs) e := oV_some _ _ h rfl
@[simp] theorem oT_l (o : Bool) (xs e : List D) (i : Nat) : oT (some (.lst o xs)) e i = .ok (.lst o xs) (e.set i .dead) := nd rfl
@[simp] theorem oT_s (z : Str) (e : List D) (i : Nat) : oT (some (.str z)) e i = .ok (.str z) (e.set i .dead) := nd rfl
@[simp] theorem oT_t (xs e : List D) (i : Nat) : oT (some (.tup xs)) e i = .ok (.tup xs) (e.set i .dead) := nd rfl
@[simp] theorem oT_i (z : Int) (e : List D) (i : Nat) : oT (some (.int z)) e i = .ok (.int z) (e.set i .dead) := nd rfl
@[simp] theorem oSet_l (o : Bool) (xs : List D) (r : RS) : oSet (some (.lst o xs)) r = r := nd rfl
@[simp] theorem oSet_dk (o : Bool) (ks : List Key) (xs : List D) (r : RS) : oSet (some (.dk o ks xs)) r = r := nd rfl
@[simp] theorem oSet_dt (o : Bool) (ks : List (List Key)) (xs : List D) (r : RS) : oSet (some (.dt o ks xs)) r = r := nd rfl
section
variable (d : D) (i : Int) (b : Bool) (z : Str)
@[simp] theorem mrg1_i : mrg1 false d (.int i) = .int i := nd rfl
@[simp] theorem mrg1_b : mrg1 false d (.bl b) = .bl b := nd rfl
@[simp] theorem mrg1_s : mrg1 false d (.str z) = .str z := nd rfl
@[simp] theorem mrg1_n : mrg1 false d .non = .non := nd rfl
@[simp] theorem mrg1_tt (xs : List D) (h : ownL xs = false) : mrg1 false (.tup xs) (.tup xs) = .tup xs := mrg1_same _ h
@[simp] theorem mrg1_lf (xs : List D) (h : ownL xs = false) : mrg1 false (.lst false xs) (.lst false xs) = .lst false xs := mrg1_same _ h
@[simp] theorem mrg1_lt (xs : List D) (h : fzL xs = false) : mrg1 false d (.lst true xs) = .lst true xs := mrg1_fz _ _ h
@[simp] theorem mrg1_kt (ks : List Key) (xs : List D) (h : fzL xs = false) : mrg1 false d (.dk true ks xs) = .dk true ks xs := mrg1_fz _ _ h
@[simp] theorem mrg1_kt2 (ks : List (List Key)) (xs : List D) (h : fzL xs = false) : mrg1 false d (.dt true ks xs) = .dt true ks xs := mrg1_fz _ _ h
end
/-! stores -/
theorem setL_ok (xs : List D) (k : Int) (y : D) (h1 : ownL xs = false) (h2 : y.own = false) (h3 : 0 ≤ k) (h4 : k < xs.length) : mSetL (.lst true xs) [.int k, y] = some (.non, .lst true (xs.set k.toNat y)) := by
  show (if _ then _ else _) = _
  rw [if_neg (by simp [h1, h2])]
  unfold ixN
  rw [if_pos h3, if_pos h4]
  rfl
theorem app_ok' (xs : List D) (x : D) (h : xs.length < 1000000) : mAppend (.lst true xs) [x] = some (.non, .lst true (xs ++ [x])) := by
  show (if _ then _ else _) = _
  rw [if_pos (szN' (by omega))]
/-! loops -/
theorem loop_nil (tg : Tr) (body : CS) (env : List D) : loopF tg body [] env = .nx env := rfl
/-- an invariant -/
theorem loop_inv {tg : Tr} {body : CS} (I : Nat → List D → Prop) : ∀ (items : List D) (n : Nat) (env : List D), I n env →
    (∀ (i : Nat) (d : D) (e : List D), items[i]? = some d → I (n + i) e → ∃ e1, tg.set d e = some e1 ∧ ∃ e2, (body e1 = .nx e2 ∨ body e1 = .ct e2) ∧ I (n + i + 1) e2) → ∃ e', loopF tg body items env = .nx e' ∧ I (n + items.length) e'
  | [], n, env, h, _ => ⟨env, rfl, h⟩
  | d :: ds, n, env, h, k => by
    obtain ⟨e1, t1, e2, b, i2⟩ := k 0 d env rfl h
    obtain ⟨e', l, i'⟩ := loop_inv I ds (n + 1) e2 i2 fun i d' e hd hi => by
      have q := k (i + 1) d' e (by simpa using hd) (by rw [show n + (i + 1) = n + 1 + i by omega]; exact hi)
      rw [show n + 1 + i = n + (i + 1) by omega]
      exact q
    refine ⟨e', ?_, by rw [show n + (d :: ds).length = n + 1 + ds.length by simp; omega]; exact i'⟩
    unfold loopF
    rw [t1]
    simp only
    rcases b with b | b <;> rw [b] <;> exact l
/-! comprehensions -/
theorem lc_map {α : Type} {own : List Nat} {tg : Tr} {elt : CE} {env : List D} (g r : α → D) : ∀ ts : List α, (∀ t ∈ ts, ∃ e1 e2, tg.set (g t) env = some e1 ∧ elt e1 = .ok (r t) e2 ∧ killL own e2 = env) → lcG own tg cTrue elt (ts.map g) env = .ok (ts.map r) env
  | [], _ => rfl
  | t :: ts, h => by
    obtain ⟨e1, e2, h1, h2, h3⟩ := h t List.mem_cons_self
    have q := lc_map g r ts fun u m => h u (List.mem_cons_of_mem _ m)
    rw [List.map_cons]
    unfold lcG
    rw [h1]
    simp only [ev_true]
    rw [h2]
    simp only
    rw [h3, q]
    rfl
/-- .. with a test -/
theorem lc_filter {α : Type} {own : List Nat} {tg : Tr} {cond elt : CE} {env : List D} (g r : α → D) (p : α → Bool) : ∀ ts : List α, (∀ t ∈ ts, ∃ e1 e2, tg.set (g t) env = some e1 ∧ cond e1 = .ok (.bl (p t)) e2 ∧ (p t = false → killL own e2 = env) ∧ (p t = true → ∃ e3, elt e2 = .ok (r t) e3 ∧ killL own e3 = env)) → lcG own tg cond elt (ts.map g) env = .ok ((ts.filter p).map r) env
  | [], _ => rfl
  | t :: ts, h => by
    obtain ⟨e1, e2, h1, h2, h3, h4⟩ := h t List.mem_cons_self
    have q := lc_filter g r p ts fun u m => h u (List.mem_cons_of_mem _ m)
    rw [List.map_cons]
    unfold lcG
    rw [h1]
    simp only
    rw [h2]
    cases e : p t with
    | false =>
      simp only
      rw [h3 e, q, List.filter_cons_of_neg (by simp [e])]
    | true =>
      obtain ⟨e3, h5, h6⟩ := h4 e
      simp only
      rw [h5]
      simp only
      rw [h6, q, List.filter_cons_of_pos e]
      rfl
@[simp] theorem boolsOf_map {α : Type} (p : α → Bool) : ∀ ts : List α, boolsOf (ts.map fun t => D.bl (p t)) = some (ts.map p)
  | [] => rfl
  | t :: ts => by
    have q := boolsOf_map p ts
    show (boolsOf (ts.map fun t => D.bl (p t))).map (p t :: ·) = _
    rw [q]
    rfl
theorem all_map {α : Type} (o : Bool) (p : α → Bool) (ts : List α) : dAll [.lst o (ts.map fun t => D.bl (p t))] = some (.bl (ts.all p)) := by
  show (boolsOf (ts.map fun t => D.bl (p t))).map _ = _
  rw [boolsOf_map]
  simp [List.all_map]
theorem any_map {α : Type} (o : Bool) (p : α → Bool) (ts : List α) : dAny [.lst o (ts.map fun t => D.bl (p t))] = some (.bl (ts.any p)) := by
  show (boolsOf (ts.map fun t => D.bl (p t))).map _ = _
  rw [boolsOf_map]
  simp [List.any_map]
end VL

set_option Elab.async false
set_option maxRecDepth 100000
/-! VR: rows of whole numbers: tuples of them, sorted, compared; lists of such. -/
namespace VL
open PySem L2 PySem.Spec

/-- a tuple of whole numbers -/
def rowD (r : List Int) : D := .tup (r.map .int)
@[simp] theorem intsOf_map : ∀ r : List Int, intsOf (r.map .int) = some r
  | [] => rfl
  | x :: r => by
    have q := intsOf_map r
    show (intsOf (.int x :: r.map .int)) = _
    simp [intsOf, q]
@[simp] theorem frzL_ints (r : List Int) : frzL (r.map .int) = r.map .int := frzL_map _ (fun _ => rfl) r
@[simp] theorem fzL_ints (r : List Int) : fzL (r.map .int) = false := fzL_map _ (fun _ => rfl) r
@[simp] theorem ownL_ints (r : List Int) : ownL (r.map .int) = false := ownL_map _ (fun _ => rfl) r
@[simp] theorem frz_row (r : List Int) : (rowD r).frz = rowD r := by simp [rowD]
@[simp] theorem fz_row (r : List Int) : (rowD r).fz = false := by simp [rowD]
@[simp] theorem own_row (r : List Int) : (rowD r).own = false := by simp [rowD]
section
variable {α : Type} (k : α → List Int)
@[simp] theorem frzL_rows (ts : List α) : frzL (ts.map fun t => rowD (k t)) = ts.map fun t => rowD (k t) := frzL_map _ (fun _ => frz_row _) ts
@[simp] theorem fzL_rows (ts : List α) : fzL (ts.map fun t => rowD (k t)) = false := fzL_map _ (fun _ => fz_row _) ts
@[simp] theorem ownL_rows (ts : List α) : ownL (ts.map fun t => rowD (k t)) = false := ownL_map _ (fun _ => own_row _) ts
end
theorem lexLt_lt : ∀ xs ys : List Int, HT.lexLt xs ys = decide (xs < ys)
  | [], [] => by simp [HT.lexLt_nil_nil]
  | [], y :: ys => by simp [HT.lexLt_nil_cons]
  | x :: xs, [] => by simp [HT.lexLt_cons_nil]
  | x :: xs, y :: ys => by
    rw [HT.lexLt_cons, lexLt_lt xs ys]
    by_cases h : x = y
    · simp [h, List.cons_lt_cons_iff]
    · simp [h, List.cons_lt_cons_iff]
theorem lt_rows (r s : List Int) : dLt [rowD r, rowD s] = some (.bl (decide (r < s))) := by
  show (match intsOf (r.map .int), intsOf (s.map .int) with | some ns, some ms => some (D.bl (HT.lexLt ns ms)) | _, _ => none) = _
  rw [intsOf_map, intsOf_map]
  simp only [lexLt_lt]
theorem dat_row (r : List Int) : (rowD r).dat = .tuple (r.map .int) := by
  show PyData.tuple (datL (r.map .int)) = _
  rw [datL_map, List.map_map]
  rfl
theorem sLe_rows (r s : List Int) : sLe (rowD r) (rowD s) = decide (r ≤ s) := by
  show PySem.W.dataLe false D.dat (rowD r) (rowD s) = _
  rw [PySem.W.dataLe_eq]
  show (!PySem.W.dataLt (rowD s).dat (rowD r).dat) = _
  rw [dat_row, dat_row, PySem.W.dataLt_tuple]
  show (!PySem.W.rowLt (s.map .int) (r.map .int)) = _
  rw [PySem.W.dataLt_ints]
  by_cases h : s < r
  · have h' : ¬ r ≤ s := fun q => List.not_lt.mpr q h
    simp [h, h']
  · have h' : r ≤ s := List.not_lt.mp h
    simp [h, h']
theorem okDL_ints : ∀ (r : List Int) (n : Nat), okDL (r.map .int) n = true
  | [], n => rfl
  | x :: r, n => by
    show (D.okD (.int x) n && okDL (r.map .int) n) = true
    rw [okDL_ints r n]
    cases n <;> rfl
theorem okD_row (r : List Int) (n : Nat) : (rowD r).okD (n + 1) = true := by
  show okDL (r.map .int) n = true
  exact okDL_ints r n
theorem alikeAll_ints : ∀ r s : List Int, PySem.W.alikeAll (r.map .int) (s.map .int) = true
  | [], s => by simp [PySem.W.alikeAll]
  | x :: r, [] => by simp [PySem.W.alikeAll]
  | x :: r, y :: s => by
    show PySem.W.alikeAll (PyData.int x :: r.map .int) (PyData.int y :: s.map .int) = true
    simp only [PySem.W.alikeAll, PySem.W.alike, alikeAll_ints r s, Bool.and_self]
section
variable {α : Type} (k : α → List Int)
theorem sortable_rows (hk : ∀ t, k t ≠ []) (ts : List α) (hl : ts.length ≤ 1000000) : sortable (ts.map fun t => rowD (k t)) = true := by
  unfold sortable
  have h1 : ∀ ts : List α, okDL (ts.map fun t => rowD (k t)) 60 = true := fun ts => by
    induction ts with
    | nil => rfl
    | cons t ts ih =>
      show ((rowD (k t)).okD 60 && okDL (ts.map fun t => rowD (k t)) 60) = true
      rw [ih, okD_row]
      rfl
  have h2 : ((ts.map fun t => rowD (k t)).all fun x => (ts.map fun t => rowD (k t)).all fun y => PySem.W.alike x.dat y.dat) = true := by
    simp only [List.all_map, List.all_eq_true, Function.comp]
    intro x _ y _
    rw [dat_row, dat_row]
    simp only [PySem.W.alike]
    exact alikeAll_ints _ _
  have h3 : ((ts.map fun t => rowD (k t)).all tupNe) = true := by
    simp only [List.all_map, List.all_eq_true, Function.comp]
    intro x _
    unfold rowD
    cases e : k x with
    | nil => exact absurd e (hk x)
    | cons a b => rfl
  rw [h1, h2, h3]
  have h4 : decide ((ts.map fun t => rowD (k t)).length ≤ sizeLine) = true := by
    rw [List.length_map]
    exact decide_eq_true (szN hl)
  rw [h4]
  simp
theorem sort_rows (ts : List α) : (ts.map fun t => rowD (k t)).mergeSort sLe = (ts.mergeSort fun a b => decide (k a ≤ k b)).map fun t => rowD (k t) :=
  (PySem.W.sort_maps (fun t => rowD (k t)) (fun a _ b _ => (sLe_rows (k a) (k b)).symm)).symm
/-- sorted, unlike: rising -/
theorem rising (hk : ∀ a b, k a = k b → a = b) (ts : List α) (nd : ts.Nodup) : (ts.mergeSort fun a b => decide (k a ≤ k b)).Pairwise fun a b => k a < k b := by
  have h1 : (ts.mergeSort fun a b => decide (k a ≤ k b)).Pairwise fun a b => decide (k a ≤ k b) = true := List.pairwise_mergeSort (fun a b c h1 h2 => by
      simp only [decide_eq_true_eq] at h1 h2 ⊢
      exact List.le_trans h1 h2) (fun a b => by
      simp only [Bool.or_eq_true, decide_eq_true_eq]
      exact List.le_total _ _) ts
  have h2 : (ts.mergeSort fun a b => decide (k a ≤ k b)).Nodup := (List.mergeSort_perm _ _).nodup_iff.mpr nd
  refine (List.pairwise_and_iff.mpr ⟨h1, h2⟩).imp fun {a b} h => ?_
  obtain ⟨q, ne⟩ := h
  simp only [decide_eq_true_eq] at q
  refine Decidable.byContradiction fun nz => ?_
  exact ne (hk a b (List.le_antisymm q (List.not_lt.mp nz)))
end
/-! ### dicts whose keys are rows, whose values are one: sets of rows -/
def keyR (r : List Int) : List Key := r.map Sum.inl
theorem keyR_inj : ∀ {r s : List Int}, keyR r = keyR s → r = s
  | [], [], _ => rfl
  | [], _ :: _, h => by cases h
  | _ :: _, [], h => by cases h
  | x :: r, y :: s, h => by
    injection h with h1 h2
    injection h1 with h1
    rw [h1, keyR_inj h2]
theorem kOfL_ints : ∀ r : List Int, kOfL (r.map .int) = some (keyR r)
  | [] => rfl
  | x :: r => by
    have q := kOfL_ints r
    show (match kOf (D.int x), kOfL (r.map .int) with | some k, some ks => some (k :: ks) | _, _ => none) = _
    rw [q]
    rfl
section
variable {α : Type} [DecidableEq α] (k : α → List Int) (y : D)
/-- the set of rows, as a dict -/
def setD (o : Bool) (ts : List α) : D := .dt o (ts.map fun t => keyR (k t)) (ts.map fun _ => y)
def putS (ts : List α) (t : α) : List α := if t ∈ ts then ts else ts ++ [t]
theorem any_key (hk : ∀ a b, k a = k b → a = b) (t : α) : ∀ ts : List α, ((ts.map fun t => keyR (k t)).any fun q => decide (q = keyR (k t))) = decide (t ∈ ts)
  | [] => by simp
  | s :: ts => by
    rw [List.map_cons, List.any_cons, any_key hk t ts]
    by_cases h : s = t
    · simp [h]
    · have : ¬ keyR (k s) = keyR (k t) := fun e => h (hk _ _ (keyR_inj e))
      simp [this, h, Ne.symm h]
theorem put_set (hk : ∀ a b, k a = k b → a = b) (h1 : y.own = false) (ts : List α) (t : α) (hl : ts.length < 1000000) : mSetD (setD k y true ts) [rowD (k t), y] = some (.non, setD k y true (putS ts t)) := by
  show (if _ then _ else _) = _
  rw [if_neg (by
    rw [ownL_map _ (fun _ => h1), h1, ownL_ints, List.length_map]
    have := szN' (show ts.length ≤ 1000000 by omega)
    simp [this])]
  rw [kOfL_ints]
  show some _ = _
  have e1 : (kIx (ts.map fun t => keyR (k t)) (keyR (k t))).isSome = decide (t ∈ ts) := by rw [kIx_any, any_key k hk]
  have e2 : kPutK (ts.map fun t => keyR (k t)) (keyR (k t)) = (putS ts t).map fun t => keyR (k t) := by
    unfold kPutK putS
    rw [e1]
    by_cases h : t ∈ ts <;> simp [h]
  have e3 : kPutV (ts.map fun t => keyR (k t)) (ts.map fun _ => y) (keyR (k t)) y = (putS ts t).map fun _ => y := by
    unfold kPutV putS
    cases e : kIx (ts.map fun t => keyR (k t)) (keyR (k t)) with
    | none =>
      rw [e] at e1
      have h : ¬ t ∈ ts := fun m => by simp [m] at e1
      simp [h]
    | some i =>
      rw [e] at e1
      have h : t ∈ ts := by simpa using e1.symm
      simp only [h, if_true]
      refine List.ext_getElem? fun j => ?_
      rw [List.getElem?_set]
      by_cases hj : i = j
      · subst hj
        by_cases hl : i < ts.length
        · simp [hl]
        · simp [hl]
      · simp [hj]
  show some (D.non, D.dt true (kPutK (ts.map fun t => keyR (k t)) (keyR (k t))) (kPutV (ts.map fun t => keyR (k t)) (ts.map fun _ => y) (keyR (k t)) y)) = _
  rw [e2, e3]
  rfl
theorem putS_nodup {ts : List α} {t : α} (h : ts.Nodup) : (putS ts t).Nodup := by
  unfold putS
  split
  · exact h
  · rename_i n
    exact List.nodup_append.mpr ⟨h, List.nodup_cons.mpr ⟨(fun m => by cases m), List.nodup_nil⟩, fun a m b q => by rw [List.mem_singleton.mp q]; exact fun e => n (e ▸ m)⟩
theorem putS_len (ts : List α) (t : α) : (putS ts t).length ≤ ts.length + 1 := by
  unfold putS
  split
  · omega
  · simp
theorem putS_mem {ts : List α} {t s : α} (h : s ∈ putS ts t) : s ∈ ts ∨ s = t := by
  unfold putS at h
  split at h
  · exact .inl h
  · rcases List.mem_append.mp h with h | h
    · exact .inl h
    · exact .inr (List.mem_singleton.mp h)
theorem sorted_set (hk0 : ∀ t, k t ≠ []) (o : Bool) (ts : List α) (hl : ts.length ≤ 1000000) : dSortAny [setD k y o ts] = some (.lst true ((ts.mergeSort fun a b => decide (k a ≤ k b)).map fun t => rowD (k t))) := by
  have e : ((ts.map fun t => keyR (k t)).map fun q => D.tup (q.map kD)) = ts.map fun t => rowD (k t) := by
    rw [List.map_map]
    refine List.map_congr_left fun t _ => ?_
    show D.tup (((k t).map Sum.inl).map kD) = D.tup ((k t).map .int)
    rw [List.map_map]
    rfl
  show (if _ then _ else _) = _
  rw [e, if_pos (sortable_rows k hk0 ts hl), sort_rows]
@[simp] theorem fz_set (hy : y.fz = false) (ts : List α) : (setD k y true ts).fz = false := by
  show (!true || fzL (ts.map fun _ => y)) = false
  rw [fzL_map _ (fun _ => hy)]
  rfl
theorem frz_set (hy : y.frz = y) (o : Bool) (ts : List α) : (setD k y o ts).frz = setD k y false ts := by
  show D.dt false _ (frzL (ts.map fun _ => y)) = _
  rw [frzL_map _ (fun _ => hy)]
  rfl
end
end VL

set_option Elab.async false
set_option maxRecDepth 100000
/-! VS: texts as rows of their signs. -/
namespace VL
open PySem L2 PySem.Spec

/-- the text of these signs -/
def S (l : List Nat) : Str := ⟨l.toArray⟩
theorem tlS (l : List Nat) : (S l).cps.toList = l := rfl
@[simp] theorem lenS (l : List Nat) : (S l).length = l.length := by simp [S, Str.length]
theorem S_inj {l m : List Nat} : S l = S m ↔ l = m := ⟨fun h => by have q := congrArg (fun z : Str => z.cps.toList) h; exact q, fun h => by rw [h]⟩
theorem S_of {z : Str} {l : List Nat} (h : z.cps.toList = l) : z = S l := TL.ext_tl h
@[simp] theorem S_app (l m : List Nat) : S l ++ S m = S (l ++ m) := TL.ext_tl (by rw [TL.tl_append]; rfl)
theorem S_lit (x : String) : Str.ofString x = S (x.toList.map Char.toNat) := S_of (TL.tl_ofString x)
/-- the signs of a whole number -/
def num (i : Int) : List Nat := if i < 0 then 45 :: TL.numL i.natAbs else TL.numL i.natAbs
theorem num_nat {i : Int} (h : 0 ≤ i) : num i = TL.numL i.natAbs := by unfold num; rw [if_neg (by omega)]
theorem num_neg {i : Int} (h : i < 0) : num i = 45 :: TL.numL i.natAbs := by unfold num; rw [if_pos h]
theorem str_num (i : Int) : Str.ofString (toString i) = S (num i) := by
  cases i with
  | ofNat n =>
    refine S_of ?_
    show (Str.ofString (toString (Int.ofNat n))).cps.toList = _
    rw [show num (Int.ofNat n) = TL.numL n from num_nat (Int.natCast_nonneg n)]
    exact TL.tl_num n
  | negSucc n =>
    refine S_of ?_
    rw [num_neg (Int.negSucc_lt_zero n)]
    have e : toString (Int.negSucc n) = "-" ++ toString (((n + 1 : Nat)) : Int) := rfl
    have h := TL.tl_ofString (toString (Int.negSucc n))
    have h2 := TL.tl_ofString (toString (((n + 1 : Nat)) : Int))
    have h3 := TL.tl_num (n + 1)
    show TL.tl (Str.ofString (toString (Int.negSucc n))) = _
    rw [e] at h ⊢
    rw [h, String.toList_append, List.map_append, ← h2, h3]
    rfl
theorem num_len {i : Int} {k : Nat} (hk : 0 < k) (h : i.natAbs < 10 ^ k) : (num i).length ≤ k + 1 := by
  have q := TL.numL_len hk h
  unfold num
  split <;> simp <;> omega
theorem num_free {i : Int} {s : Nat} (h : (s < 48 ∨ 57 < s) ∧ s ≠ 45) : s ∉ num i := by
  unfold num
  split
  · intro m
    rcases List.mem_cons.mp m with e | m
    · exact h.2 e
    · exact TL.numL_free h.1 m
  · exact TL.numL_free h.1
theorem str_i (i : Int) (h : i.natAbs < 10 ^ 60) : dStr [.int i] = some (.str (S (num i))) := by
  show (if _ then _ else _) = _
  have q : i.natAbs.log2 < 1920 := by
    by_cases e : i.natAbs = 0
    · rw [e]; decide
    · refine (Nat.log2_lt e).mpr (Nat.lt_of_lt_of_le h ?_)
      decide +kernel
  rw [if_pos q, str_num]
theorem addS (l m : List Nat) (h : l.length + m.length ≤ 1000000) : dAdd [.str (S l), .str (S m)] = some (.str (S (l ++ m))) := by
  rw [add_ss _ _ (by rw [lenS, lenS]; exact szN h), S_app]
theorem okS {l : List Nat} (h : ∀ c ∈ l, c < 1114112) : PyData.strOk (S l) = true := by
  unfold PyData.strOk S
  rw [← Array.all_toList]
  simp only [List.all_eq_true]
  intro c hc
  exact decide_eq_true (h c hc)
theorem eqS (l m : List Nat) (h1 : ∀ c ∈ l, c < 1114112) (h2 : ∀ c ∈ m, c < 1114112) : dEq [.str (S l), .str (S m)] = some (.bl (decide (l = m))) := by
  rw [eq_ss _ _ (okS h1) (okS h2)]
  simp only [S_inj]
theorem neS (l m : List Nat) (h1 : ∀ c ∈ l, c < 1114112) (h2 : ∀ c ∈ m, c < 1114112) : dNe [.str (S l), .str (S m)] = some (.bl (!decide (l = m))) := by
  rw [ne_ss _ _ (okS h1) (okS h2)]
  simp only [S_inj]
theorem numOk {i : Int} : ∀ c ∈ num i, c < 1114112 := fun c hc => by
  unfold num at hc
  split at hc
  · rcases List.mem_cons.mp hc with rfl | hc
    · omega
    · have := TL.numL_digits _ c hc; omega
  · have := TL.numL_digits _ c hc; omega
/-! join, split, partition -/
theorem strs_map : ∀ parts : List (List Nat), strsOf (parts.map fun p => D.str (S p)) = some (parts.map S)
  | [] => rfl
  | p :: parts => by
    have q := strs_map parts
    show (strsOf (D.str (S p) :: parts.map fun p => D.str (S p))) = _
    unfold strsOf
    rw [q]
    rfl
theorem joinS (s : List Nat) (o : Bool) (parts : List (List Nat)) (h : (parts.map List.length).sum + parts.length * s.length ≤ 1000000) : dJoin (.str (S s)) [.lst o (parts.map fun p => D.str (S p))] = some (.str (S (TL.joinL s parts))) := by
  show (strsOf (parts.map fun p => D.str (S p))).bind _ = _
  rw [strs_map]
  show (if _ then _ else _) = _
  have e1 : ((parts.map S).map (·.length)) = parts.map List.length := by rw [List.map_map]; exact List.map_congr_left fun p _ => lenS p
  rw [e1, List.length_map, lenS, if_pos (by omega)]
  have e2 : Txt.join (S s) (parts.map S) = S (TL.joinL s parts) := by
    rw [TL.join_eq]
    refine S_of ?_
    have q := TL.tl_join (S s) (parts.map S)
    rw [List.map_map] at q
    have e3 : parts.map (TL.tl ∘ S) = parts := List.map_id parts
    rw [e3] at q
    exact q
  rw [e2]
theorem splitS (s : Nat) (hs : s < 256) (parts : List (List Nat)) (hne : parts ≠ []) (hp : ∀ p ∈ parts, s ∉ p) (hl : (TL.joinL [s] parts).length ≤ 1000000) : dSplit (.str (S (TL.joinL [s] parts))) [.str (S [s])] = some (.lst true (parts.map fun p => D.str (S p))) := by
  show (if _ then _ else _) = _
  rw [if_pos ⟨rfl, by rw [lenS, szL]; omega⟩]
  have e : S (TL.joinL [s] parts) = Txt.join (S [s]) (parts.map S) := by
    rw [TL.join_eq]
    refine (S_of ?_).symm
    have q := TL.tl_join (S [s]) (parts.map S)
    rw [List.map_map] at q
    have e3 : parts.map (TL.tl ∘ S) = parts := List.map_id parts
    rw [e3] at q
    exact q
  rw [e, TL.split_join (y := S [s]) (s := s) (S := []) rfl (by unfold S; rw [← Array.all_toList]; simpa using hs) (by simpa using hne) (fun p m => by
    obtain ⟨q, hq, rfl⟩ := List.mem_map.mp m
    exact hp q hq), List.map_map]
  rfl
theorem partS (s : Nat) (a b : List Nat) (h : s ∉ a) (hl : a.length + b.length ≤ 1000000) : dPartition (.str (S (a ++ s :: b))) [.str (S [s])] = some (.tup [.str (S a), .str (S [s]), .str (S b)]) := by
  show (if _ then _ else _) = _
  rw [if_pos ⟨rfl, by rw [lenS, szL]; simp; omega⟩]
  have e : S (a ++ s :: b) = S a ++ S [s] ++ S b := by simp
  rw [e, TL.partition_app (y := S [s]) (s := s) (S := []) rfl h]
theorem charsS (l : List Nat) : chars (S l) = l.map fun c => D.str (S [c]) := rfl
theorem int_numL {n : Nat} (h : (TL.numL n).length ≤ 640) : dToInt [.str (S (TL.numL n))] = some (.int n) := by
  have e : S (TL.numL n) = Str.ofString (toString ((n : Nat) : Int)) := by rw [str_num, num_nat (Int.natCast_nonneg n)]; rfl
  show (if _ then _ else _) = _
  rw [lenS, if_pos h, e, TL.int_num (by omega)]
  rfl
theorem cut_tail (l : List Nat) : cutS (S l) (some 1) none = S (l.drop 1) := by
  unfold cutS
  have h1 : HT.sIx (S l).length 0 (some 1) = min 1 l.length := by rw [lenS]; rfl
  have h2 : HT.sIx (S l).length (S l).length none = l.length := by rw [lenS]; rfl
  rw [h1, h2, tlS]
  show S _ = S _
  congr 1
  cases l with
  | nil => rfl
  | cons x l => simp
theorem cut_head (l : List Nat) : cutS (S l) none (some 1) = S (l.take 1) := by
  unfold cutS
  have h1 : HT.sIx (S l).length 0 none = 0 := rfl
  have h2 : HT.sIx (S l).length (S l).length (some 1) = min 1 l.length := by rw [lenS]; rfl
  rw [h1, h2, tlS]
  show S _ = S _
  congr 1
  cases l with
  | nil => rfl
  | cons x l => simp
theorem sl_tail (l : List Nat) (h : l.length ≤ 1000000) : dSlB (.str (S l)) (some 1) none = some (.str (S (l.drop 1))) := by
  show (if _ then _ else _) = _
  rw [lenS, if_pos (szN h), cut_tail]
theorem sl_head (l : List Nat) (h : l.length ≤ 1000000) : dSlB (.str (S l)) none (some 1) = some (.str (S (l.take 1))) := by
  show (if _ then _ else _) = _
  rw [lenS, if_pos (szN h), cut_head]
end VL

set_option Elab.async false
set_option maxRecDepth 100000
namespace K87
open PySem L2 PySem.Spec PyProof.Rows VL
def top (i : Nat) : Stmt := PySem.Challenge.pw_whenmeet_k87_webs_and_walks_written.main.body.getD i (.Pass ⟨0, 0, 0, 0⟩)
def blL : List Str := ["len", "max", "min", "abs", "all", "any", "sum", "sorted", "int", "str", "list", "tuple", "bool", "isinstance", "range", "enumerate", "zip", "set", "dict"]
def w1_law_folded : CS := (sSet 2 mSetL (cApp dAdd [(cApp dMul [(cLoan [2] (cApp dIx [(cVar 2), (cApp dMod [(cVar 3), (cVar 1)])])), (cK (.int 1000003))]), (cApp dIx [(cVar 0), (cVar 3)])]) (cApp dMod [(cVar 3), (cVar 1)]))
def b_law_folded : CS := (sSeq (sAsg 2 (cApp dMul [(cApp dLst [(cK (.int 0))]), (cVar 1)])) (sSeq (sFor (.n 3) (iOf gRange1 [(cApp dLen [(cVar 0)])]) w1_law_folded) (sRet (cSl (cFreeze [2] (cVar 2)) none (some (cApp dMax [(cK (.int 1)), (cApp dMin [(cApp dLen [(cVar 0)]), (cVar 1)])]))))))
def f_law_folded : Fn := runF 2 2 [] b_law_folded
def st_law_folded : Stmt := top 27
theorem sc_law_folded : FnScope ["script", "most", "cells", "k"] ["script", "most"] (defScope st_law_folded) := ⟨rfl, rfl, rfl, by decide +kernel, rfl, by decide +kernel, by decide +kernel⟩
theorem cal_law_folded {P : Program} {w : World} {K : PySem.W.Frag} {mg : Str → Option Value} {base : Heap} (E : Ent K mg "_law_folded" st_law_folded ["script", "most"]) (hbl : ∀ x ∈ blL, mg x = none)   : Cal P w K mg base 1 "_law_folded" ["script", "most"] [] f_law_folded := by
  refine cal_of (N := ["script", "most", "cells", "k"]) (vi := [0, 1, 2, 3]) (lo := [0, 1, 2, 3]) (gl := ["range", "len", "max", "min"]) (bl := blL) E sc_law_folded rfl rfl (by decide) (by decide) (by decide +kernel) hbl fun X c e1 e2 e3 e4 e5 S => ?_
  have B := S.B
  exact (ss_cons (B.asg (i := 2) rfl (by decide) rfl (e_mul (se_lst (a_cons e_int a_nil)) (B.var (i := 1) rfl (by decide)))) (ss_cons (Bd.for_ S (t := (.n 3)) rfl (B.tgN (i := 3) rfl (by decide)) (pi_rng1 (B.gl' (i := 0) rfl) (B.bl' (i := 14) rfl) (a_cons (B.len (i := 1) (j := 0) rfl rfl (a_cons (B.var (i := 0) rfl (by decide)) a_nil)) a_nil)) (ss_one (B.setL (i := 2) rfl (by decide) (e_mod (B.var (i := 3) rfl (by decide)) (B.var (i := 1) rfl (by decide))) (B.add (e_mul (se_loan (fz := [2]) (B.ix (B.var (i := 2) rfl (by decide)) (e_mod (B.var (i := 3) rfl (by decide)) (B.var (i := 1) rfl (by decide))))) e_int) (B.ix (B.var (i := 0) rfl (by decide)) (B.var (i := 3) rfl (by decide))))))) (ss_one (ss_ret (se_sl01 B.hK (se_freeze (fz := [2]) (B.var (i := 2) rfl (by decide))) (B.max2 (i := 2) (j := 1) rfl rfl (a_cons e_int (a_cons (B.min2 (i := 3) (j := 2) rfl rfl (a_cons (B.len (i := 1) (j := 0) rfl rfl (a_cons (B.var (i := 0) rfl (by decide)) a_nil)) (a_cons (B.var (i := 1) rfl (by decide)) a_nil))) a_nil))))))))
def b_law_pool : CS := (sRet (cApp dLst [(cApp dMax [(cK (.int 0)), (cApp dSub [(cVar 0), (cApp dPow [(cK (.int 10)), (cK (.int 18))])])]), (cApp dMod [(cVar 0), (cApp dPow [(cK (.int 10)), (cK (.int 18))])]), (cK (.int 0))]))
def f_law_pool : Fn := runF 1 0 [] b_law_pool
def st_law_pool : Stmt := top 19
theorem sc_law_pool : FnScope ["cell"] ["cell"] (defScope st_law_pool) := ⟨rfl, rfl, rfl, by decide +kernel, rfl, by decide +kernel, by decide +kernel⟩
theorem cal_law_pool {P : Program} {w : World} {K : PySem.W.Frag} {mg : Str → Option Value} {base : Heap} (E : Ent K mg "_law_pool" st_law_pool ["cell"]) (hbl : ∀ x ∈ blL, mg x = none)   : Cal P w K mg base 1 "_law_pool" ["cell"] [] f_law_pool := by
  refine cal_of (N := ["cell"]) (vi := [0]) (lo := [0]) (gl := ["max"]) (bl := blL) E sc_law_pool rfl rfl (by decide) (by decide) (by decide +kernel) hbl fun X c e1 e2 e3 e4 e5 S => ?_
  have B := S.B
  exact (ss_one (ss_ret (se_lst (a_cons (B.max2 (i := 0) (j := 1) rfl rfl (a_cons e_int (a_cons (e_sub (B.var (i := 0) rfl (by decide)) (e_pow e_int e_int)) a_nil))) (a_cons (e_mod (B.var (i := 0) rfl (by decide)) (e_pow e_int e_int)) (a_cons e_int a_nil))))))
def b_law_next : CS := (sSeq (sIf (cApp dGt [(cLoan [0] (cApp dIx [(cVar 0), (cK (.int 0))])), (cK (.int 0))]) (sSeq (sAsg 4 (cApp dMod [(cLoan [0] (cApp dIx [(cVar 0), (cK (.int 0))])), (cVar 1)])) (sSeq (sSet 0 mSetL (cApp dDiv [(cLoan [0] (cApp dIx [(cVar 0), (cK (.int 0))])), (cVar 1)]) (cK (.int 0))) (sRet (cVar 4)))) sNil) (sSeq (sSet 0 mSetL (cApp dAdd [(cLoan [0] (cApp dIx [(cVar 0), (cK (.int 2))])), (cK (.int 1))]) (cK (.int 2))) (sSeq (sAsg 2 (cApp dMod [(cApp dAdd [(cLoan [0] (cApp dIx [(cVar 0), (cK (.int 1))])), (cApp dMul [(cK (.int 7919)), (cLoan [0] (cApp dIx [(cVar 0), (cK (.int 2))]))])]), (cK (.int 1000000007))])) (sSeq (sAsg 3 (cApp dMod [(cApp dMul [(cApp dAdd [(cVar 2), (cK (.int 11))]), (cApp dAdd [(cVar 2), (cK (.int 48271))])]), (cK (.int 998244353))])) (sRet (cApp dMod [(cApp dDiv [(cApp dMod [(cApp dMul [(cVar 3), (cVar 3)]), (cK (.int 2147483647))]), (cK (.int 8))]), (cVar 1)]))))))
def f_law_next : Fn := runF 2 3 [0] b_law_next
def st_law_next : Stmt := top 20
theorem sc_law_next : FnScope ["pool", "base", "near", "stir", "digit"] ["pool", "base"] (defScope st_law_next) := ⟨rfl, rfl, rfl, by decide +kernel, rfl, by decide +kernel, by decide +kernel⟩
theorem cal_law_next {P : Program} {w : World} {K : PySem.W.Frag} {mg : Str → Option Value} {base : Heap} (E : Ent K mg "_law_next" st_law_next ["pool", "base"]) (hbl : ∀ x ∈ blL, mg x = none)   : Cal P w K mg base 1 "_law_next" ["pool", "base"] [0] f_law_next := by
  refine cal_of (N := ["pool", "base", "near", "stir", "digit"]) (vi := [0, 1, 4, 2, 3]) (lo := [0, 1, 4, 2, 3]) (gl := []) (bl := blL) E sc_law_next rfl rfl (by decide) (by decide) (by decide +kernel) hbl fun X c e1 e2 e3 e4 e5 S => ?_
  have B := S.B
  exact (ss_cons (ss_if (B.tgt (se_loan (fz := [0]) (B.ix (B.var (i := 0) rfl (by decide)) e_int)) e_int) (ss_cons (B.asg (i := 4) rfl (by decide) rfl (e_mod (se_loan (fz := [0]) (B.ix (B.var (i := 0) rfl (by decide)) e_int)) (B.var (i := 1) rfl (by decide)))) (ss_cons (B.setL (i := 0) rfl (by decide) e_int (e_div (se_loan (fz := [0]) (B.ix (B.var (i := 0) rfl (by decide)) e_int)) (B.var (i := 1) rfl (by decide)))) (ss_one (ss_ret (B.var (i := 4) rfl (by decide)))))) ss_nil) (ss_cons (B.setL (i := 0) rfl (by decide) e_int (B.add (se_loan (fz := [0]) (B.ix (B.var (i := 0) rfl (by decide)) e_int)) e_int)) (ss_cons (B.asg (i := 2) rfl (by decide) rfl (e_mod (B.add (se_loan (fz := [0]) (B.ix (B.var (i := 0) rfl (by decide)) e_int)) (e_mul e_int (se_loan (fz := [0]) (B.ix (B.var (i := 0) rfl (by decide)) e_int)))) e_int)) (ss_cons (B.asg (i := 3) rfl (by decide) rfl (e_mod (e_mul (B.add (B.var (i := 2) rfl (by decide)) e_int) (B.add (B.var (i := 2) rfl (by decide)) e_int)) e_int)) (ss_one (ss_ret (e_mod (e_div (e_mod (e_mul (B.var (i := 3) rfl (by decide)) (B.var (i := 3) rfl (by decide))) e_int) e_int) (B.var (i := 1) rfl (by decide)))))))))
def b_law_moment : CS := (sSeq (sIf (cApp dEq [(cVar 1), (cK (.int 4))]) (sSeq (sAsg 2 (cApp dAdd [(cApp dMul [(cCall [0] f_law_next [.inr 0, .inl (cK (.int 100000))]), (cK (.int 100000))]), (cCall [0] f_law_next [.inr 0, .inl (cK (.int 100000))])])) (sRet (cApp dIx [(cApp dLst [(cApp dPow [(cK (.int 10)), (cK (.int 9))]), (cApp dSub [(cK (.int 0)), (cApp dPow [(cK (.int 10)), (cK (.int 9))])]), (cApp dSub [(cApp dMod [(cVar 2), (cApp dAdd [(cApp dMul [(cK (.int 2)), (cApp dPow [(cK (.int 10)), (cK (.int 9))])]), (cK (.int 1))])]), (cApp dPow [(cK (.int 10)), (cK (.int 9))])])]), (cCall [0] f_law_next [.inr 0, .inl (cK (.int 3))])]))) sNil) (sRet (cApp dAdd [(cApp dIx [(cApp dLst [(cK (.int 0)), (cK (.int 0)), (cK (.int 0)), (cApp dSub [(cK (.int 0)), (cK (.int 10))])]), (cVar 1)]), (cApp dMul [(cApp dIx [(cApp dLst [(cK (.int 1)), (cK (.int 1)), (cK (.int 3)), (cK (.int 1))]), (cVar 1)]), (cCall [0] f_law_next [.inr 0, .inl (cApp dIx [(cApp dLst [(cK (.int 7)), (cK (.int 31)), (cK (.int 9)), (cK (.int 21))]), (cVar 1)])])])])))
def f_law_moment : Fn := runF 2 1 [0] b_law_moment
def st_law_moment : Stmt := top 21
theorem sc_law_moment : FnScope ["pool", "kind", "far"] ["pool", "kind"] (defScope st_law_moment) := ⟨rfl, rfl, rfl, by decide +kernel, rfl, by decide +kernel, by decide +kernel⟩
theorem cal_law_moment {P : Program} {w : World} {K : PySem.W.Frag} {mg : Str → Option Value} {base : Heap} (E : Ent K mg "_law_moment" st_law_moment ["pool", "kind"]) (hbl : ∀ x ∈ blL, mg x = none) (C__law_next : Cal P w K mg base 1 "_law_next" ["pool", "base"] [0] f_law_next)  : Cal P w K mg base 2 "_law_moment" ["pool", "kind"] [0] f_law_moment := by
  have C__law_next := C__law_next.mono (show 1 ≤ 1 by omega)
  refine cal_of (N := ["pool", "kind", "far"]) (vi := [0, 1, 2]) (lo := [0, 1, 2]) (gl := ["_law_next"]) (bl := blL) E sc_law_moment rfl rfl (by decide) (by decide) (by decide +kernel) hbl fun X c e1 e2 e3 e4 e5 S => ?_
  have B := S.B
  exact (ss_cons (ss_if (B.teq (B.var (i := 1) rfl (by decide)) e_int) (ss_cons (B.asg (i := 2) rfl (by decide) rfl (B.add (e_mul (B.call (i := 0) (C__law_next.to e1 e2 e3 e4 e5) rfl rfl (B.r_io (i := 0) rfl (by decide) (r_val e_int r_nil))) e_int) (B.call (i := 0) (C__law_next.to e1 e2 e3 e4 e5) rfl rfl (B.r_io (i := 0) rfl (by decide) (r_val e_int r_nil))))) (ss_one (ss_ret (B.ix (se_lst (a_cons (e_pow e_int e_int) (a_cons (e_sub e_int (e_pow e_int e_int)) (a_cons (e_sub (e_mod (B.var (i := 2) rfl (by decide)) (B.add (e_mul e_int (e_pow e_int e_int)) e_int)) (e_pow e_int e_int)) a_nil)))) (B.call (i := 0) (C__law_next.to e1 e2 e3 e4 e5) rfl rfl (B.r_io (i := 0) rfl (by decide) (r_val e_int r_nil))))))) ss_nil) (ss_one (ss_ret (B.add (B.ix (se_lst (a_cons e_int (a_cons e_int (a_cons e_int (a_cons (e_sub e_int e_int) a_nil))))) (B.var (i := 1) rfl (by decide))) (e_mul (B.ix (se_lst (a_cons e_int (a_cons e_int (a_cons e_int (a_cons e_int a_nil))))) (B.var (i := 1) rfl (by decide))) (B.call (i := 0) (C__law_next.to e1 e2 e3 e4 e5) rfl rfl (B.r_io (i := 0) rfl (by decide) (r_val (B.ix (se_lst (a_cons e_int (a_cons e_int (a_cons e_int (a_cons e_int a_nil))))) (B.var (i := 1) rfl (by decide))) r_nil))))))))
def w1_law_any_web : CS := (sSeq (sAsg 5 (cCall [0] f_law_next [.inr 0, .inl (cVar 1)])) (sSeq (sAsg 6 (cApp dMod [(cApp dAdd [(cApp dAdd [(cVar 5), (cK (.int 1))]), (cCall [0] f_law_next [.inr 0, .inl (cApp dSub [(cVar 1), (cK (.int 1))])])]), (cVar 1)])) (sSet 3 mSetD (cK (.bl true)) (cApp dTup [(cCall [0] f_law_moment [.inr 0, .inl (cVar 2)]), (cApp dMin [(cVar 5), (cVar 6)]), (cApp dMax [(cVar 5), (cVar 6)])]))))
def b_law_any_web : CS := (sSeq (sAsg 1 (cApp dAdd [(cK (.int 1)), (cCall [0] f_law_next [.inr 0, .inl (cK (.int 7))])])) (sSeq (sAsg 2 (cCall [0] f_law_next [.inr 0, .inl (cK (.int 5))])) (sSeq (sAsg 3 cNewT) (sSeq (sFor (.n 4) (iOf gRange1 [(cApp dMul [(cApp dIx [(cApp dLst [(cK (.int 24)), (cCall [0] f_law_next [.inr 0, .inl (cK (.int 25))])]), (cCall [0] f_law_next [.inr 0, .inl (cK (.int 2))])]), (cApp dToInt [(cApp dGt [(cVar 1), (cK (.int 1))])])])]) w1_law_any_web) (sRet (cApp dTup [(cVar 1), (cApp dToTup [(cApp dSortAny [(cFreeze [3] (cVar 3))])])]))))))
def f_law_any_web : Fn := runF 1 6 [0] b_law_any_web
def st_law_any_web : Stmt := top 22
theorem sc_law_any_web : FnScope ["pool", "many", "kind", "meets", "k", "one", "other"] ["pool"] (defScope st_law_any_web) := ⟨rfl, rfl, rfl, by decide +kernel, rfl, by decide +kernel, by decide +kernel⟩
theorem cal_law_any_web {P : Program} {w : World} {K : PySem.W.Frag} {mg : Str → Option Value} {base : Heap} (E : Ent K mg "_law_any_web" st_law_any_web ["pool"]) (hbl : ∀ x ∈ blL, mg x = none) (C__law_next : Cal P w K mg base 1 "_law_next" ["pool", "base"] [0] f_law_next) (C__law_moment : Cal P w K mg base 2 "_law_moment" ["pool", "kind"] [0] f_law_moment)  : Cal P w K mg base 3 "_law_any_web" ["pool"] [0] f_law_any_web := by
  have C__law_next := C__law_next.mono (show 1 ≤ 2 by omega)
  have C__law_moment := C__law_moment.mono (show 2 ≤ 2 by omega)
  refine cal_of (N := ["pool", "many", "kind", "meets", "k", "one", "other"]) (vi := [0, 1, 2, 3, 4, 5, 6]) (lo := [0, 1, 2, 3, 4, 5, 6]) (gl := ["_law_next", "range", "int", "_law_moment", "min", "max", "tuple", "sorted"]) (bl := blL) E sc_law_any_web rfl rfl (by decide) (by decide) (by decide +kernel) hbl fun X c e1 e2 e3 e4 e5 S => ?_
  have B := S.B
  exact (ss_cons (B.asg (i := 1) rfl (by decide) rfl (B.add e_int (B.call (i := 0) (C__law_next.to e1 e2 e3 e4 e5) rfl rfl (B.r_io (i := 0) rfl (by decide) (r_val e_int r_nil))))) (ss_cons (B.asg (i := 2) rfl (by decide) rfl (B.call (i := 0) (C__law_next.to e1 e2 e3 e4 e5) rfl rfl (B.r_io (i := 0) rfl (by decide) (r_val e_int r_nil)))) (ss_cons (B.asg (i := 3) rfl (by decide) rfl se_newT) (ss_cons (Bd.for_ S (t := (.n 4)) rfl (B.tgN (i := 4) rfl (by decide)) (pi_rng1 (B.gl' (i := 1) rfl) (B.bl' (i := 14) rfl) (a_cons (e_mul (B.ix (se_lst (a_cons e_int (a_cons (B.call (i := 0) (C__law_next.to e1 e2 e3 e4 e5) rfl rfl (B.r_io (i := 0) rfl (by decide) (r_val e_int r_nil))) a_nil))) (B.call (i := 0) (C__law_next.to e1 e2 e3 e4 e5) rfl rfl (B.r_io (i := 0) rfl (by decide) (r_val e_int r_nil)))) (B.int (i := 2) (j := 8) rfl rfl (a_cons (B.gt (B.var (i := 1) rfl (by decide)) e_int) a_nil))) a_nil)) (ss_cons (B.asg (i := 5) rfl (by decide) rfl (B.call (i := 0) (C__law_next.to e1 e2 e3 e4 e5) rfl rfl (B.r_io (i := 0) rfl (by decide) (r_val (B.var (i := 1) rfl (by decide)) r_nil)))) (ss_cons (B.asg (i := 6) rfl (by decide) rfl (e_mod (B.add (B.add (B.var (i := 5) rfl (by decide)) e_int) (B.call (i := 0) (C__law_next.to e1 e2 e3 e4 e5) rfl rfl (B.r_io (i := 0) rfl (by decide) (r_val (e_sub (B.var (i := 1) rfl (by decide)) e_int) r_nil)))) (B.var (i := 1) rfl (by decide)))) (ss_one (B.setD (i := 3) rfl (by decide) (se_tup (a_cons (B.call (i := 3) (C__law_moment.to e1 e2 e3 e4 e5) rfl rfl (B.r_io (i := 0) rfl (by decide) (r_val (B.var (i := 2) rfl (by decide)) r_nil))) (a_cons (B.min2 (i := 4) (j := 2) rfl rfl (a_cons (B.var (i := 5) rfl (by decide)) (a_cons (B.var (i := 6) rfl (by decide)) a_nil))) (a_cons (B.max2 (i := 5) (j := 1) rfl rfl (a_cons (B.var (i := 5) rfl (by decide)) (a_cons (B.var (i := 6) rfl (by decide)) a_nil))) a_nil)))) e_bl))))) (ss_one (ss_ret (se_tup (a_cons (B.var (i := 1) rfl (by decide)) (a_cons (B.tuple (i := 6) (j := 11) rfl rfl (a_cons (B.sorted (i := 7) (j := 7) rfl rfl (a_cons (se_freeze (fz := [3]) (B.var (i := 3) rfl (by decide))) a_nil)) a_nil)) a_nil)))))))))
def w1_law_any_walk : CS := (sSeq (sAsg 5 (cApp dMod [(cApp dAdd [(cApp dAdd [(cVar 1), (cK (.int 1))]), (cCall [0] f_law_next [.inr 0, .inl (cK (.int 6))])]), (cK (.int 7))])) (sSeq (sAsg 2 (cApp dAdd [(cVar 2), (cApp dIx [(cApp dLst [(cK (.int 0)), (cK (.int 1)), (cCall [0] f_law_next [.inr 0, .inl (cK (.int 100))]), (cCall [0] f_law_next [.inr 0, .inl (cApp dPow [(cK (.int 10)), (cK (.int 9))])])]), (cCall [0] f_law_next [.inr 0, .inl (cK (.int 4))])])])) (sSeq (sExpr (cMut 3 isLst mAppend [(cApp dTup [(cVar 2), (cVar 1), (cVar 5)])])) (sAsg 1 (cVar 5)))))
def b_law_any_walk : CS := (sSeq (sAsg 1 (cCall [0] f_law_next [.inr 0, .inl (cK (.int 7))])) (sSeq (sAsg 2 (cApp dIx [(cApp dLst [(cK (.int 0)), (cApp dSub [(cK (.int 0)), (cApp dPow [(cK (.int 10)), (cK (.int 29))])]), (cApp dSub [(cK (.int 0)), (cCall [0] f_law_next [.inr 0, .inl (cK (.int 100))])]), (cApp dSub [(cApp dPow [(cK (.int 10)), (cK (.int 30))]), (cApp dMul [(cApp dPow [(cK (.int 10)), (cK (.int 12))]), (cK (.int 200))])])]), (cCall [0] f_law_next [.inr 0, .inl (cK (.int 4))])])) (sSeq (sAsg 3 (cApp dLst [])) (sSeq (sFor (.n 4) (iOf gRange1 [(cCall [0] f_law_next [.inr 0, .inl (cK (.int 13))])]) w1_law_any_walk) (sRet (cApp dToTup [(cFreeze [3] (cVar 3))]))))))
def f_law_any_walk : Fn := runF 1 5 [0] b_law_any_walk
def st_law_any_walk : Stmt := top 23
theorem sc_law_any_walk : FnScope ["pool", "place", "moment", "found", "k", "other"] ["pool"] (defScope st_law_any_walk) := ⟨rfl, rfl, rfl, by decide +kernel, rfl, by decide +kernel, by decide +kernel⟩
theorem cal_law_any_walk {P : Program} {w : World} {K : PySem.W.Frag} {mg : Str → Option Value} {base : Heap} (E : Ent K mg "_law_any_walk" st_law_any_walk ["pool"]) (hbl : ∀ x ∈ blL, mg x = none) (C__law_next : Cal P w K mg base 1 "_law_next" ["pool", "base"] [0] f_law_next)  : Cal P w K mg base 2 "_law_any_walk" ["pool"] [0] f_law_any_walk := by
  have C__law_next := C__law_next.mono (show 1 ≤ 1 by omega)
  refine cal_of (N := ["pool", "place", "moment", "found", "k", "other"]) (vi := [0, 1, 2, 3, 4, 5]) (lo := [0, 1, 2, 3, 4, 5]) (gl := ["_law_next", "range", "tuple"]) (bl := blL) E sc_law_any_walk rfl rfl (by decide) (by decide) (by decide +kernel) hbl fun X c e1 e2 e3 e4 e5 S => ?_
  have B := S.B
  exact (ss_cons (B.asg (i := 1) rfl (by decide) rfl (B.call (i := 0) (C__law_next.to e1 e2 e3 e4 e5) rfl rfl (B.r_io (i := 0) rfl (by decide) (r_val e_int r_nil)))) (ss_cons (B.asg (i := 2) rfl (by decide) rfl (B.ix (se_lst (a_cons e_int (a_cons (e_sub e_int (e_pow e_int e_int)) (a_cons (e_sub e_int (B.call (i := 0) (C__law_next.to e1 e2 e3 e4 e5) rfl rfl (B.r_io (i := 0) rfl (by decide) (r_val e_int r_nil)))) (a_cons (e_sub (e_pow e_int e_int) (e_mul (e_pow e_int e_int) e_int)) a_nil))))) (B.call (i := 0) (C__law_next.to e1 e2 e3 e4 e5) rfl rfl (B.r_io (i := 0) rfl (by decide) (r_val e_int r_nil))))) (ss_cons (B.asg (i := 3) rfl (by decide) rfl (se_lst a_nil)) (ss_cons (Bd.for_ S (t := (.n 4)) rfl (B.tgN (i := 4) rfl (by decide)) (pi_rng1 (B.gl' (i := 1) rfl) (B.bl' (i := 14) rfl) (a_cons (B.call (i := 0) (C__law_next.to e1 e2 e3 e4 e5) rfl rfl (B.r_io (i := 0) rfl (by decide) (r_val e_int r_nil))) a_nil)) (ss_cons (B.asg (i := 5) rfl (by decide) rfl (e_mod (B.add (B.add (B.var (i := 1) rfl (by decide)) e_int) (B.call (i := 0) (C__law_next.to e1 e2 e3 e4 e5) rfl rfl (B.r_io (i := 0) rfl (by decide) (r_val e_int r_nil)))) e_int)) (ss_cons (B.asg (i := 2) rfl (by decide) rfl (B.add (B.var (i := 2) rfl (by decide)) (B.ix (se_lst (a_cons e_int (a_cons e_int (a_cons (B.call (i := 0) (C__law_next.to e1 e2 e3 e4 e5) rfl rfl (B.r_io (i := 0) rfl (by decide) (r_val e_int r_nil))) (a_cons (B.call (i := 0) (C__law_next.to e1 e2 e3 e4 e5) rfl rfl (B.r_io (i := 0) rfl (by decide) (r_val (e_pow e_int e_int) r_nil))) a_nil))))) (B.call (i := 0) (C__law_next.to e1 e2 e3 e4 e5) rfl rfl (B.r_io (i := 0) rfl (by decide) (r_val e_int r_nil)))))) (ss_cons (ss_expr (B.append (i := 3) rfl (by decide) (a_cons (se_tup (a_cons (B.var (i := 2) rfl (by decide)) (a_cons (B.var (i := 1) rfl (by decide)) (a_cons (B.var (i := 5) rfl (by decide)) a_nil)))) a_nil))) (ss_one (B.asg (i := 1) rfl (by decide) rfl (B.var (i := 5) rfl (by decide)))))))) (ss_one (ss_ret (B.tuple (i := 2) (j := 11) rfl rfl (a_cons (se_freeze (fz := [3]) (B.var (i := 3) rfl (by decide))) a_nil))))))))
def w1_law_web_text : CS := (sAsg 1 (cApp dAdd [(cApp dAdd [(cApp dAdd [(cApp dAdd [(cApp dAdd [(cApp dAdd [(cVar 1), (cK (.str " "))]), (cApp dStr [(cVar 2)])]), (cK (.str ":"))]), (cApp dStr [(cVar 3)])]), (cK (.str "-"))]), (cApp dStr [(cVar 4)])]))
def b_law_web_text : CS := (sSeq (sAsg 1 (cApp dAdd [(cK (.str "web ")), (cApp dStr [(cApp dIx [(cVar 0), (cK (.int 0))])])])) (sSeq (sFor (.t [2, 3, 4]) (iVal (cApp dIx [(cVar 0), (cK (.int 1))])) w1_law_web_text) (sRet (cVar 1))))
def f_law_web_text : Fn := runF 1 4 [] b_law_web_text
def st_law_web_text : Stmt := top 24
theorem sc_law_web_text : FnScope ["web", "found", "moment", "one", "other"] ["web"] (defScope st_law_web_text) := ⟨rfl, rfl, rfl, by decide +kernel, rfl, by decide +kernel, by decide +kernel⟩
theorem cal_law_web_text {P : Program} {w : World} {K : PySem.W.Frag} {mg : Str → Option Value} {base : Heap} (E : Ent K mg "_law_web_text" st_law_web_text ["web"]) (hbl : ∀ x ∈ blL, mg x = none)   : Cal P w K mg base 1 "_law_web_text" ["web"] [] f_law_web_text := by
  refine cal_of (N := ["web", "found", "moment", "one", "other"]) (vi := [0, 1, 2, 3, 4]) (lo := [0, 1, 2, 3, 4]) (gl := ["str"]) (bl := blL) E sc_law_web_text rfl rfl (by decide) (by decide) (by decide +kernel) hbl fun X c e1 e2 e3 e4 e5 S => ?_
  have B := S.B
  exact (ss_cons (B.asg (i := 1) rfl (by decide) rfl (B.add e_str (B.str (i := 0) (j := 9) rfl rfl (a_cons (B.ix (B.var (i := 0) rfl (by decide)) e_int) a_nil)))) (ss_cons (Bd.for_ S (t := (.t [2, 3, 4])) rfl (tgT (B.ts (i := 2) rfl (by decide) (B.ts (i := 3) rfl (by decide) (B.ts (i := 4) rfl (by decide) B.ts0)))) (pi_val B.hK (B.ix (B.var (i := 0) rfl (by decide)) e_int)) (ss_one (B.asg (i := 1) rfl (by decide) rfl (B.add (B.add (B.add (B.add (B.add (B.add (B.var (i := 1) rfl (by decide)) e_str) (B.str (i := 0) (j := 9) rfl rfl (a_cons (B.var (i := 2) rfl (by decide)) a_nil))) e_str) (B.str (i := 0) (j := 9) rfl rfl (a_cons (B.var (i := 3) rfl (by decide)) a_nil))) e_str) (B.str (i := 0) (j := 9) rfl rfl (a_cons (B.var (i := 4) rfl (by decide)) a_nil)))))) (ss_one (ss_ret (B.var (i := 1) rfl (by decide))))))
def w1_law_walk_text : CS := (sAsg 1 (cApp dAdd [(cApp dAdd [(cApp dAdd [(cApp dAdd [(cApp dAdd [(cApp dAdd [(cVar 1), (cK (.str " "))]), (cApp dStr [(cVar 2)])]), (cK (.str ":"))]), (cApp dStr [(cVar 3)])]), (cK (.str ">"))]), (cApp dStr [(cVar 4)])]))
def b_law_walk_text : CS := (sSeq (sIf (cApp dEq [(cApp dLen [(cVar 0)]), (cK (.int 0))]) (sRet (cK (.str "-"))) sNil) (sSeq (sAsg 1 (cK (.str ""))) (sSeq (sFor (.t [2, 3, 4]) (iVal (cVar 0)) w1_law_walk_text) (sRet (cSl (cVar 1) (some (cK (.int 1))) none)))))
def f_law_walk_text : Fn := runF 1 4 [] b_law_walk_text
def st_law_walk_text : Stmt := top 25
theorem sc_law_walk_text : FnScope ["walk", "found", "moment", "one", "other"] ["walk"] (defScope st_law_walk_text) := ⟨rfl, rfl, rfl, by decide +kernel, rfl, by decide +kernel, by decide +kernel⟩
theorem cal_law_walk_text {P : Program} {w : World} {K : PySem.W.Frag} {mg : Str → Option Value} {base : Heap} (E : Ent K mg "_law_walk_text" st_law_walk_text ["walk"]) (hbl : ∀ x ∈ blL, mg x = none)   : Cal P w K mg base 1 "_law_walk_text" ["walk"] [] f_law_walk_text := by
  refine cal_of (N := ["walk", "found", "moment", "one", "other"]) (vi := [0, 1, 2, 3, 4]) (lo := [0, 1, 2, 3, 4]) (gl := ["len", "str"]) (bl := blL) E sc_law_walk_text rfl rfl (by decide) (by decide) (by decide +kernel) hbl fun X c e1 e2 e3 e4 e5 S => ?_
  have B := S.B
  exact (ss_cons (ss_if (B.teq (B.len (i := 0) (j := 0) rfl rfl (a_cons (B.var (i := 0) rfl (by decide)) a_nil)) e_int) (ss_one (ss_ret e_str)) ss_nil) (ss_cons (B.asg (i := 1) rfl (by decide) rfl e_str) (ss_cons (Bd.for_ S (t := (.t [2, 3, 4])) rfl (tgT (B.ts (i := 2) rfl (by decide) (B.ts (i := 3) rfl (by decide) (B.ts (i := 4) rfl (by decide) B.ts0)))) (pi_val B.hK (B.var (i := 0) rfl (by decide))) (ss_one (B.asg (i := 1) rfl (by decide) rfl (B.add (B.add (B.add (B.add (B.add (B.add (B.var (i := 1) rfl (by decide)) e_str) (B.str (i := 1) (j := 9) rfl rfl (a_cons (B.var (i := 2) rfl (by decide)) a_nil))) e_str) (B.str (i := 1) (j := 9) rfl rfl (a_cons (B.var (i := 3) rfl (by decide)) a_nil))) e_str) (B.str (i := 1) (j := 9) rfl rfl (a_cons (B.var (i := 4) rfl (by decide)) a_nil)))))) (ss_one (ss_ret (se_sl10 B.hK (B.var (i := 1) rfl (by decide)) e_int))))))
def w1_web_text : CS := (sExpr (cMut 1 isLst mAppend [(cApp dAdd [(cApp dAdd [(cApp dAdd [(cApp dAdd [(cApp dStr [(cVar 2)]), (cK (.str ":"))]), (cApp dStr [(cVar 3)])]), (cK (.str "-"))]), (cApp dStr [(cVar 4)])])]))
def b_web_text : CS := (sSeq (sAsg 1 (cApp dLst [(cK (.str "web")), (cApp dStr [(cApp dIx [(cVar 0), (cK (.int 0))])])])) (sSeq (sFor (.t [2, 3, 4]) (iVal (cApp dIx [(cVar 0), (cK (.int 1))])) w1_web_text) (sRet (cMet isStr dJoin (cK (.str " ")) [(cFreeze [1] (cVar 1))]))))
def f_web_text : Fn := runF 1 4 [] b_web_text
def st_web_text : Stmt := top 8
theorem sc_web_text : FnScope ["web", "pieces", "moment", "one", "other"] ["web"] (defScope st_web_text) := ⟨rfl, rfl, rfl, by decide +kernel, rfl, by decide +kernel, by decide +kernel⟩
theorem cal_web_text {P : Program} {w : World} {K : PySem.W.Frag} {mg : Str → Option Value} {base : Heap} (E : Ent K mg "web_text" st_web_text ["web"]) (hbl : ∀ x ∈ blL, mg x = none)   : Cal P w K mg base 1 "web_text" ["web"] [] f_web_text := by
  refine cal_of (N := ["web", "pieces", "moment", "one", "other"]) (vi := [0, 1, 2, 3, 4]) (lo := [0, 1, 2, 3, 4]) (gl := ["str"]) (bl := blL) E sc_web_text rfl rfl (by decide) (by decide) (by decide +kernel) hbl fun X c e1 e2 e3 e4 e5 S => ?_
  have B := S.B
  exact (ss_cons (B.asg (i := 1) rfl (by decide) rfl (se_lst (a_cons e_str (a_cons (B.str (i := 0) (j := 9) rfl rfl (a_cons (B.ix (B.var (i := 0) rfl (by decide)) e_int) a_nil)) a_nil)))) (ss_cons (Bd.for_ S (t := (.t [2, 3, 4])) rfl (tgT (B.ts (i := 2) rfl (by decide) (B.ts (i := 3) rfl (by decide) (B.ts (i := 4) rfl (by decide) B.ts0)))) (pi_val B.hK (B.ix (B.var (i := 0) rfl (by decide)) e_int)) (ss_one (ss_expr (B.append (i := 1) rfl (by decide) (a_cons (B.add (B.add (B.add (B.add (B.str (i := 0) (j := 9) rfl rfl (a_cons (B.var (i := 2) rfl (by decide)) a_nil)) e_str) (B.str (i := 0) (j := 9) rfl rfl (a_cons (B.var (i := 3) rfl (by decide)) a_nil))) e_str) (B.str (i := 0) (j := 9) rfl rfl (a_cons (B.var (i := 4) rfl (by decide)) a_nil))) a_nil))))) (ss_one (ss_ret (B.join e_str (a_cons (se_freeze (fz := [1]) (B.var (i := 1) rfl (by decide))) a_nil))))))
def b_walk_text : CS := (sSeq (sIf (cApp dEq [(cVar 0), (cApp dTup [])]) (sRet (cK (.str "-"))) sNil) (sRet (cMet isStr dJoin (cK (.str " ")) [(cLc [1, 2, 3] (iVal (cVar 0)) (.t [1, 2, 3]) cTrue (cApp dAdd [(cApp dAdd [(cApp dAdd [(cApp dAdd [(cApp dStr [(cVar 1)]), (cK (.str ":"))]), (cApp dStr [(cVar 2)])]), (cK (.str ">"))]), (cApp dStr [(cVar 3)])]))])))
def f_walk_text : Fn := runF 1 3 [] b_walk_text
def st_walk_text : Stmt := top 9
theorem sc_walk_text : FnScope ["walk", "moment", "begin", "end"] ["walk"] (defScope st_walk_text) := ⟨rfl, rfl, rfl, by decide +kernel, rfl, by decide +kernel, by decide +kernel⟩
theorem cal_walk_text {P : Program} {w : World} {K : PySem.W.Frag} {mg : Str → Option Value} {base : Heap} (E : Ent K mg "walk_text" st_walk_text ["walk"]) (hbl : ∀ x ∈ blL, mg x = none)   : Cal P w K mg base 1 "walk_text" ["walk"] [] f_walk_text := by
  refine cal_of (N := ["walk", "moment", "begin", "end"]) (vi := [0]) (lo := [0]) (gl := []) (bl := blL) E sc_walk_text rfl rfl (by decide) (by decide) (by decide +kernel) hbl fun X c e1 e2 e3 e4 e5 S => ?_
  have B := S.B
  exact (ss_cons (ss_if (B.teq (B.var (i := 0) rfl (by decide)) (se_tup a_nil)) (ss_one (ss_ret e_str)) ss_nil) (ss_one (ss_ret (B.join e_str (a_cons (B.lc (own := [("moment", 1), ("begin", 2), ("end", 3)]) (vi' := [1, 2, 3]) (lo' := [1, 2, 3]) (gl' := ["str"]) (by decide +kernel) (pi_val B.hK (B.var (i := 0) rfl (by decide))) (fun Y f11 f12 f13 f14 f15 B1 => ⟨(tgT (B1.ts (i := 1) rfl (by decide) (B1.ts (i := 2) rfl (by decide) (B1.ts (i := 3) rfl (by decide) B1.ts0)))), sc_none, (B1.add (B1.add (B1.add (B1.add (B1.str (i := 0) (j := 9) rfl rfl (a_cons (B1.var (i := 1) rfl (by decide)) a_nil)) e_str) (B1.str (i := 0) (j := 9) rfl rfl (a_cons (B1.var (i := 2) rfl (by decide)) a_nil))) e_str) (B1.str (i := 0) (j := 9) rfl rfl (a_cons (B1.var (i := 3) rfl (by decide)) a_nil)))⟩)) a_nil)))))
def b_law_same (fn : Fn) : CS := (sSeq (sIf (cApp dIs [(cVar 1), (cK .non)]) (sRet (cApp dIs [(cVar 0), (cK .non)])) sNil) (sSeq (sIf (cIsa [.list, .tuple] (cVar 1)) (sSeq (sIf (cOr (cApp dNe [(cIsa [.list] (cVar 1)), (cIsa [.list] (cVar 0))]) (cApp dNe [(cIsa [.tuple] (cVar 1)), (cIsa [.tuple] (cVar 0))])) (sRet (cK (.bl false))) sNil) (sRet (cAnd (cApp dEq [(cApp dLen [(cVar 0)]), (cApp dLen [(cVar 1)])]) (cApp dAll [(cLc [2, 3] (iOf gZip [(cVar 0), (cVar 1)]) (.t [2, 3]) cTrue (cCall [] fn [.inl (cVar 2), .inl (cVar 3)]))])))) sNil) (sRet (cAnd (cIsa [.int] (cVar 0)) (cAnd (cNot (cIsa [.bool] (cVar 0))) (cApp dEq [(cVar 0), (cVar 1)]))))))
def fr_law_same : Nat → Fn
  | 0 => fun _ => .bad
  | n + 1 => runF 2 2 [] (b_law_same (fr_law_same n))
def f_law_same : Fn := fr_law_same 5
def st_law_same : Stmt := top 26
theorem sc_law_same : FnScope ["found", "due", "one", "other"] ["found", "due"] (defScope st_law_same) := ⟨rfl, rfl, rfl, by decide +kernel, rfl, by decide +kernel, by decide +kernel⟩
theorem calr_law_same {P : Program} {w : World} {K : PySem.W.Frag} {mg : Str → Option Value} {base : Heap} (E : Ent K mg "_law_same" st_law_same ["found", "due"]) (hbl : ∀ x ∈ blL, mg x = none)   (n : Nat) : Cal P w K mg base (1 + n) "_law_same" ["found", "due"] [] (fr_law_same n) := by
  induction n with
  | zero => exact (cal_bad (ios := []) E sc_law_same).mono (by omega)
  | succ n ih =>
    have C_rec := ih
    rw [show 1 + (n + 1) = (1 + n) + 1 by omega]
    refine cal_of (N := ["found", "due", "one", "other"]) (vi := [0, 1]) (lo := [0, 1]) (gl := ["isinstance", "list", "tuple", "len", "all", "zip", "int", "bool"]) (bl := blL) E sc_law_same rfl rfl (by decide) (by decide) (by decide +kernel) hbl fun X c e1 e2 e3 e4 e5 S => ?_
    have B := S.B
    exact (ss_cons (ss_if (B.tis (B.var (i := 1) rfl (by decide)) e_non) (ss_one (ss_ret (B.is (B.var (i := 0) rfl (by decide)) e_non))) ss_nil) (ss_cons (ss_if (t_val (B.isaLT (i := 0) (j := 13) (i2 := 1) (j2 := 10) (i3 := 2) (j3 := 11) rfl rfl rfl rfl rfl rfl (B.var (i := 1) rfl (by decide)))) (ss_cons (ss_if (t_w (w_or (B.tne (B.isaList (i := 0) (j := 13) (i2 := 1) (j2 := 10) rfl rfl rfl rfl (B.var (i := 1) rfl (by decide))) (B.isaList (i := 0) (j := 13) (i2 := 1) (j2 := 10) rfl rfl rfl rfl (B.var (i := 0) rfl (by decide)))) (w_or1 (B.tne (B.isaTuple (i := 0) (j := 13) (i2 := 2) (j2 := 11) rfl rfl rfl rfl (B.var (i := 1) rfl (by decide))) (B.isaTuple (i := 0) (j := 13) (i2 := 2) (j2 := 11) rfl rfl rfl rfl (B.var (i := 0) rfl (by decide))))))) (ss_one (ss_ret e_bl)) ss_nil) (ss_one (ss_ret (e_and (B.eq (B.len (i := 3) (j := 0) rfl rfl (a_cons (B.var (i := 0) rfl (by decide)) a_nil)) (B.len (i := 3) (j := 0) rfl rfl (a_cons (B.var (i := 1) rfl (by decide)) a_nil))) (e_one (B.all (i := 4) (j := 4) rfl rfl (a_cons (B.lc (own := [("one", 2), ("other", 3)]) (vi' := [2, 3]) (lo' := [2, 3]) (gl' := ["_law_same"]) (by decide +kernel) (pi_zp B.hK (B.gl' (i := 5) rfl) (B.bl' (i := 16) rfl) (a_cons (B.var (i := 0) rfl (by decide)) (a_cons (B.var (i := 1) rfl (by decide)) a_nil))) (fun Y f11 f12 f13 f14 f15 B1 => ⟨(tgT (B1.ts (i := 2) rfl (by decide) (B1.ts (i := 3) rfl (by decide) B1.ts0))), sc_none, (B1.call (i := 0) (C_rec.to (f11.trans e1) (f12.trans e2) (f13.trans e3) (f14.trans e4) (f15.trans e5)) rfl rfl (r_val (B1.var (i := 2) rfl (by decide)) (r_val (B1.var (i := 3) rfl (by decide)) r_nil)))⟩)) a_nil))))))) ss_nil) (ss_one (ss_ret (e_and (B.isaInt (i := 0) (j := 13) (i2 := 6) (j2 := 8) rfl rfl rfl rfl (B.var (i := 0) rfl (by decide))) (e_and (e_not (B.isaBool (i := 0) (j := 13) (i2 := 7) (j2 := 12) rfl rfl rfl rfl (B.var (i := 0) rfl (by decide)))) (e_one (B.eq (B.var (i := 0) rfl (by decide)) (B.var (i := 1) rfl (by decide))))))))))
theorem cal_law_same {P : Program} {w : World} {K : PySem.W.Frag} {mg : Str → Option Value} {base : Heap} (E : Ent K mg "_law_same" st_law_same ["found", "due"]) (hbl : ∀ x ∈ blL, mg x = none)   : Cal P w K mg base 6 "_law_same" ["found", "due"] [] f_law_same := calr_law_same E hbl   5
def b_look_at_text : CS := (sIf (cNot (cIsa [.str] (cVar 0))) sBad sNil)
def f_look_at_text : Fn := runF 1 0 [] b_look_at_text
def st_look_at_text : Stmt := top 13
theorem sc_look_at_text : FnScope ["thing"] ["thing"] (defScope st_look_at_text) := ⟨rfl, rfl, rfl, by decide +kernel, rfl, by decide +kernel, by decide +kernel⟩
theorem cal_look_at_text {P : Program} {w : World} {K : PySem.W.Frag} {mg : Str → Option Value} {base : Heap} (E : Ent K mg "look_at_text" st_look_at_text ["thing"]) (hbl : ∀ x ∈ blL, mg x = none)   : Cal P w K mg base 1 "look_at_text" ["thing"] [] f_look_at_text := by
  refine cal_of (N := ["thing"]) (vi := [0]) (lo := [0]) (gl := ["isinstance", "str", "NoText"]) (bl := blL) E sc_look_at_text rfl rfl (by decide) (by decide) (by decide +kernel) hbl fun X c e1 e2 e3 e4 e5 S => ?_
  have B := S.B
  exact (ss_one (ss_if (t_not (t_val (B.isaStr (i := 0) (j := 13) (i2 := 1) (j2 := 9) rfl rfl rfl rfl (B.var (i := 0) rfl (by decide))))) (ss_one ss_bad) ss_nil))
def b_read_count : CS := (sSeq (sIf (cOr (cApp dEq [(cVar 0), (cK (.str ""))]) (cOr (cApp dGt [(cApp dLen [(cVar 0)]), (cK (.int (30)))]) (cNot (cApp dAll [(cLc [1] (iVal (cVar 0)) (.n 1) cTrue (cApp dIn [(cVar 1), (cK (.str "0123456789"))]))])))) (sRet (cK .non)) sNil) (sSeq (sIf (cAnd (cApp dEq [(cApp dIx [(cVar 0), (cK (.int 0))]), (cK (.str "0"))]) (cApp dNe [(cVar 0), (cK (.str "0"))])) (sRet (cK .non)) sNil) (sRet (cApp dToInt [(cVar 0)]))))
def f_read_count : Fn := runF 1 1 [] b_read_count
def st_read_count : Stmt := top 10
theorem sc_read_count : FnScope ["word", "sign"] ["word"] (defScope st_read_count) := ⟨rfl, rfl, rfl, by decide +kernel, rfl, by decide +kernel, by decide +kernel⟩
theorem cal_read_count {P : Program} {w : World} {K : PySem.W.Frag} {mg : Str → Option Value} {base : Heap} (E : Ent K mg "read_count" st_read_count ["word"]) (hbl : ∀ x ∈ blL, mg x = none)  (hc_MOST_FIGURES : ∃ t, mg "MOST_FIGURES" = some (.int (30) t)) : Cal P w K mg base 1 "read_count" ["word"] [] f_read_count := by
  refine cal_of (N := ["word", "sign"]) (vi := [0]) (lo := [0]) (gl := ["len", "MOST_FIGURES", "all", "int"]) (bl := blL) E sc_read_count rfl rfl (by decide) (by decide) (by decide +kernel) hbl fun X c e1 e2 e3 e4 e5 S => ?_
  have B := S.B
  exact (ss_cons (ss_if (t_w (w_or (B.teq (B.var (i := 0) rfl (by decide)) e_str) (w_or (B.tgt (B.len (i := 0) (j := 0) rfl rfl (a_cons (B.var (i := 0) rfl (by decide)) a_nil)) (B.gint (i := 1) rfl e4 hc_MOST_FIGURES)) (w_or1 (t_not (t_val (B.all (i := 2) (j := 4) rfl rfl (a_cons (B.lc (own := [("sign", 1)]) (vi' := [1]) (lo' := [1]) (gl' := []) (by decide +kernel) (pi_val B.hK (B.var (i := 0) rfl (by decide))) (fun Y f11 f12 f13 f14 f15 B1 => ⟨(B1.tgN (i := 1) rfl (by decide)), sc_none, (B1.isin (B1.var (i := 1) rfl (by decide)) e_str)⟩)) a_nil)))))))) (ss_one (ss_ret e_non)) ss_nil) (ss_cons (ss_if (t_w (w_and (B.teq (B.ix (B.var (i := 0) rfl (by decide)) e_int) e_str) (w_and1 (B.tne (B.var (i := 0) rfl (by decide)) e_str)))) (ss_one (ss_ret e_non)) ss_nil) (ss_one (ss_ret (B.int (i := 3) (j := 8) rfl rfl (a_cons (B.var (i := 0) rfl (by decide)) a_nil))))))
def b_read_moment : CS := (sSeq (sIf (cApp dNe [(cSl (cVar 0) none (some (cK (.int 1)))), (cK (.str "-"))]) (sRet (cCall [] f_read_count [.inl (cVar 0)])) sNil) (sSeq (sAsg 1 (cCall [] f_read_count [.inl (cSl (cVar 0) (some (cK (.int 1))) none)])) (sSeq (sIf (cOr (cApp dIs [(cVar 1), (cK .non)]) (cApp dEq [(cVar 1), (cK (.int 0))])) (sRet (cK .non)) sNil) (sRet (cApp dSub [(cK (.int 0)), (cVar 1)])))))
def f_read_moment : Fn := runF 1 1 [] b_read_moment
def st_read_moment : Stmt := top 11
theorem sc_read_moment : FnScope ["word", "found"] ["word"] (defScope st_read_moment) := ⟨rfl, rfl, rfl, by decide +kernel, rfl, by decide +kernel, by decide +kernel⟩
theorem cal_read_moment {P : Program} {w : World} {K : PySem.W.Frag} {mg : Str → Option Value} {base : Heap} (E : Ent K mg "read_moment" st_read_moment ["word"]) (hbl : ∀ x ∈ blL, mg x = none) (C_read_count : Cal P w K mg base 1 "read_count" ["word"] [] f_read_count)  : Cal P w K mg base 2 "read_moment" ["word"] [] f_read_moment := by
  have C_read_count := C_read_count.mono (show 1 ≤ 1 by omega)
  refine cal_of (N := ["word", "found"]) (vi := [0, 1]) (lo := [0, 1]) (gl := ["read_count"]) (bl := blL) E sc_read_moment rfl rfl (by decide) (by decide) (by decide +kernel) hbl fun X c e1 e2 e3 e4 e5 S => ?_
  have B := S.B
  exact (ss_cons (ss_if (B.tne (se_sl01 B.hK (B.var (i := 0) rfl (by decide)) e_int) e_str) (ss_one (ss_ret (B.call (i := 0) (C_read_count.to e1 e2 e3 e4 e5) rfl rfl (r_val (B.var (i := 0) rfl (by decide)) r_nil)))) ss_nil) (ss_cons (B.asg (i := 1) rfl (by decide) rfl (B.call (i := 0) (C_read_count.to e1 e2 e3 e4 e5) rfl rfl (r_val (se_sl10 B.hK (B.var (i := 0) rfl (by decide)) e_int) r_nil))) (ss_cons (ss_if (t_w (w_or (B.tis (B.var (i := 1) rfl (by decide)) e_non) (w_or1 (B.teq (B.var (i := 1) rfl (by decide)) e_int)))) (ss_one (ss_ret e_non)) ss_nil) (ss_one (ss_ret (e_sub e_int (B.var (i := 1) rfl (by decide))))))))
def b_read_triple : CS := (sSeq (sUnp [3, 4, 5] (cMet isStr dPartition (cVar 0) [(cK (.str ":"))])) (sSeq (sUnp [6, 7, 8] (cMet isStr dPartition (cVar 5) [(cVar 1)])) (sSeq (sAsg 2 (cApp dTup [(cCall [] f_read_moment [.inl (cVar 3)]), (cCall [] f_read_count [.inl (cVar 6)]), (cCall [] f_read_count [.inl (cVar 8)])])) (sSeq (sIf (cOr (cApp dIn [(cK .non), (cVar 2)]) (cOr (cApp dGe [(cApp dMaxL [(cSl (cVar 2) (some (cK (.int 1))) none)]), (cK (.int (7)))]) (cApp dEq [(cApp dIx [(cVar 2), (cK (.int 1))]), (cApp dIx [(cVar 2), (cK (.int 2))])]))) (sRet (cK .non)) sNil) (sRet (cVar 2))))))
def f_read_triple : Fn := runF 2 7 [] b_read_triple
def st_read_triple : Stmt := top 12
theorem sc_read_triple : FnScope ["piece", "mark", "found", "ahead", "colon", "behind", "one", "between", "other"] ["piece", "mark"] (defScope st_read_triple) := ⟨rfl, rfl, rfl, by decide +kernel, rfl, by decide +kernel, by decide +kernel⟩
theorem cal_read_triple {P : Program} {w : World} {K : PySem.W.Frag} {mg : Str → Option Value} {base : Heap} (E : Ent K mg "read_triple" st_read_triple ["piece", "mark"]) (hbl : ∀ x ∈ blL, mg x = none) (C_read_moment : Cal P w K mg base 2 "read_moment" ["word"] [] f_read_moment) (C_read_count : Cal P w K mg base 1 "read_count" ["word"] [] f_read_count) (hc_MOST_PLACES : ∃ t, mg "MOST_PLACES" = some (.int (7) t)) : Cal P w K mg base 3 "read_triple" ["piece", "mark"] [] f_read_triple := by
  have C_read_moment := C_read_moment.mono (show 2 ≤ 2 by omega)
  have C_read_count := C_read_count.mono (show 1 ≤ 2 by omega)
  refine cal_of (N := ["piece", "mark", "found", "ahead", "colon", "behind", "one", "between", "other"]) (vi := [0, 1, 3, 4, 5, 6, 7, 8, 2]) (lo := [0, 1, 3, 4, 5, 6, 7, 8, 2]) (gl := ["read_moment", "read_count", "max", "MOST_PLACES"]) (bl := blL) E sc_read_triple rfl rfl (by decide) (by decide) (by decide +kernel) hbl fun X c e1 e2 e3 e4 e5 S => ?_
  have B := S.B
  exact (ss_cons (B.unp rfl (B.ts (i := 3) rfl (by decide) (B.ts (i := 4) rfl (by decide) (B.ts (i := 5) rfl (by decide) B.ts0))) (B.partition (B.var (i := 0) rfl (by decide)) (a_cons e_str a_nil))) (ss_cons (B.unp rfl (B.ts (i := 6) rfl (by decide) (B.ts (i := 7) rfl (by decide) (B.ts (i := 8) rfl (by decide) B.ts0))) (B.partition (B.var (i := 5) rfl (by decide)) (a_cons (B.var (i := 1) rfl (by decide)) a_nil))) (ss_cons (B.asg (i := 2) rfl (by decide) rfl (se_tup (a_cons (B.call (i := 0) (C_read_moment.to e1 e2 e3 e4 e5) rfl rfl (r_val (B.var (i := 3) rfl (by decide)) r_nil)) (a_cons (B.call (i := 1) (C_read_count.to e1 e2 e3 e4 e5) rfl rfl (r_val (B.var (i := 6) rfl (by decide)) r_nil)) (a_cons (B.call (i := 1) (C_read_count.to e1 e2 e3 e4 e5) rfl rfl (r_val (B.var (i := 8) rfl (by decide)) r_nil)) a_nil))))) (ss_cons (ss_if (t_w (w_or (B.tin e_non (B.var (i := 2) rfl (by decide))) (w_or (B.tge (B.max1 (i := 2) (j := 1) rfl rfl (a_cons (se_sl10 B.hK (B.var (i := 2) rfl (by decide)) e_int) a_nil)) (B.gint (i := 3) rfl e4 hc_MOST_PLACES)) (w_or1 (B.teq (B.ix (B.var (i := 2) rfl (by decide)) e_int) (B.ix (B.var (i := 2) rfl (by decide)) e_int)))))) (ss_one (ss_ret e_non)) ss_nil) (ss_one (ss_ret (B.var (i := 2) rfl (by decide))))))))
def b_can_meet : CS := (sSeq (sIf (cOr (cApp dIs [(cVar 1), (cK .non)]) (cOr (cNot (cChain dLe dLe (cApp dSub [(cK (.int 0)), (cK (.int (1000000000)))]) (cApp dIx [(cVar 1), (cK (.int 0))]) (cK (.int (1000000000))))) (cNot (cChain dLt dLt (cApp dIx [(cVar 1), (cK (.int 1))]) (cApp dIx [(cVar 1), (cK (.int 2))]) (cVar 2))))) (sRet (cK (.bl false))) sNil) (sRet (cAnd (cApp dLt [(cApp dLen [(cVar 0)]), (cK (.int (24)))]) (cOr (cApp dEq [(cVar 0), (cApp dLst [])]) (cApp dLt [(cApp dIx [(cVar 0), (cApp dNeg [(cK (.int 1))])]), (cVar 1)])))))
def f_can_meet : Fn := runF 3 0 [] b_can_meet
def st_can_meet : Stmt := top 14
theorem sc_can_meet : FnScope ["meets", "meet", "many"] ["meets", "meet", "many"] (defScope st_can_meet) := ⟨rfl, rfl, rfl, by decide +kernel, rfl, by decide +kernel, by decide +kernel⟩
theorem cal_can_meet {P : Program} {w : World} {K : PySem.W.Frag} {mg : Str → Option Value} {base : Heap} (E : Ent K mg "can_meet" st_can_meet ["meets", "meet", "many"]) (hbl : ∀ x ∈ blL, mg x = none)  (hc_FAR : ∃ t, mg "FAR" = some (.int (1000000000) t)) (hc_MOST_MEETS : ∃ t, mg "MOST_MEETS" = some (.int (24) t)) : Cal P w K mg base 1 "can_meet" ["meets", "meet", "many"] [] f_can_meet := by
  refine cal_of (N := ["meets", "meet", "many"]) (vi := [0, 1, 2]) (lo := [0, 1, 2]) (gl := ["FAR", "len", "MOST_MEETS"]) (bl := blL) E sc_can_meet rfl rfl (by decide) (by decide) (by decide +kernel) hbl fun X c e1 e2 e3 e4 e5 S => ?_
  have B := S.B
  exact (ss_cons (ss_if (t_w (w_or (B.tis (B.var (i := 1) rfl (by decide)) e_non) (w_or (t_not (t_lele (e_sub e_int (B.gint (i := 0) rfl e4 hc_FAR)) (B.ix (B.var (i := 1) rfl (by decide)) e_int) (B.gint (i := 0) rfl e4 hc_FAR))) (w_or1 (t_not (t_ltlt (B.ix (B.var (i := 1) rfl (by decide)) e_int) (B.ix (B.var (i := 1) rfl (by decide)) e_int) (B.var (i := 2) rfl (by decide)))))))) (ss_one (ss_ret e_bl)) ss_nil) (ss_one (ss_ret (e_and (B.lt (B.len (i := 1) (j := 0) rfl rfl (a_cons (B.var (i := 0) rfl (by decide)) a_nil)) (B.gint (i := 2) rfl e4 hc_MOST_MEETS)) (e_one (e_or (B.eq (B.var (i := 0) rfl (by decide)) (se_lst a_nil)) (e_one (B.lt (B.ix (B.var (i := 0) rfl (by decide)) (e_neg e_int)) (B.var (i := 1) rfl (by decide))))))))))
def w1_read_web : CS := (sSeq (sAsg 6 (cCall [] f_read_triple [.inl (cVar 5), .inl (cK (.str "-"))])) (sSeq (sIf (cNot (cLoan [3] (cCall [] f_can_meet [.inl (cVar 3), .inl (cVar 6), .inl (cVar 2)]))) sBad sNil) (sExpr (cMut 3 isLst mAppend [(cVar 6)]))))
def b_read_web : CS := (sSeq (sExpr (cCall [] f_look_at_text [.inl (cVar 0)])) (sSeq (sAsg 1 (cMet isStr dSplit (cVar 0) [(cK (.str " "))])) (sSeq (sIf (cApp dNe [(cApp dIx [(cFreeze [1] (cVar 1)), (cK (.int 0))]), (cK (.str "web"))]) sBad sNil) (sSeq (sAsg 2 (cCall [] f_read_count [.inl (cApp dIx [(cApp dAdd [(cFreeze [1] (cVar 1)), (cApp dLst [(cK (.str ""))])]), (cK (.int 1))])])) (sSeq (sIf (cOr (cApp dIs [(cVar 2), (cK .non)]) (cNot (cChain dLe dLe (cK (.int 1)) (cVar 2) (cK (.int (7)))))) sBad sNil) (sSeq (sAsg 3 (cApp dLst [])) (sSeq (sFor (.t [4, 5]) (iOf gEnum [(cSl (cFreeze [1] (cVar 1)) (some (cK (.int 2))) none)]) w1_read_web) (sRet (cApp dTup [(cVar 2), (cApp dToTup [(cFreeze [3] (cVar 3))])])))))))))
def f_read_web : Fn := runF 1 6 [] b_read_web
def st_read_web : Stmt := top 15
theorem sc_read_web : FnScope ["thing", "pieces", "many", "meets", "at", "piece", "meet"] ["thing"] (defScope st_read_web) := ⟨rfl, rfl, rfl, by decide +kernel, rfl, by decide +kernel, by decide +kernel⟩
theorem cal_read_web {P : Program} {w : World} {K : PySem.W.Frag} {mg : Str → Option Value} {base : Heap} (E : Ent K mg "read_web" st_read_web ["thing"]) (hbl : ∀ x ∈ blL, mg x = none) (C_look_at_text : Cal P w K mg base 1 "look_at_text" ["thing"] [] f_look_at_text) (C_read_count : Cal P w K mg base 1 "read_count" ["word"] [] f_read_count) (C_read_triple : Cal P w K mg base 3 "read_triple" ["piece", "mark"] [] f_read_triple) (C_can_meet : Cal P w K mg base 1 "can_meet" ["meets", "meet", "many"] [] f_can_meet) (hc_MOST_PLACES : ∃ t, mg "MOST_PLACES" = some (.int (7) t)) : Cal P w K mg base 4 "read_web" ["thing"] [] f_read_web := by
  have C_look_at_text := C_look_at_text.mono (show 1 ≤ 3 by omega)
  have C_read_count := C_read_count.mono (show 1 ≤ 3 by omega)
  have C_read_triple := C_read_triple.mono (show 3 ≤ 3 by omega)
  have C_can_meet := C_can_meet.mono (show 1 ≤ 3 by omega)
  refine cal_of (N := ["thing", "pieces", "many", "meets", "at", "piece", "meet"]) (vi := [0, 1, 2, 3, 4, 5, 6]) (lo := [0, 1, 2, 3, 4, 5, 6]) (gl := ["look_at_text", "NoText", "read_count", "MOST_PLACES", "enumerate", "read_triple", "can_meet", "tuple"]) (bl := blL) E sc_read_web rfl rfl (by decide) (by decide) (by decide +kernel) hbl fun X c e1 e2 e3 e4 e5 S => ?_
  have B := S.B
  exact (ss_cons (ss_expr (B.call (i := 0) (C_look_at_text.to e1 e2 e3 e4 e5) rfl rfl (r_val (B.var (i := 0) rfl (by decide)) r_nil))) (ss_cons (B.asg (i := 1) rfl (by decide) rfl (B.split (B.var (i := 0) rfl (by decide)) (a_cons e_str a_nil))) (ss_cons (ss_if (B.tne (B.ix (se_freeze (fz := [1]) (B.var (i := 1) rfl (by decide))) e_int) e_str) (ss_one ss_bad) ss_nil) (ss_cons (B.asg (i := 2) rfl (by decide) rfl (B.call (i := 2) (C_read_count.to e1 e2 e3 e4 e5) rfl rfl (r_val (B.ix (B.add (se_freeze (fz := [1]) (B.var (i := 1) rfl (by decide))) (se_lst (a_cons e_str a_nil))) e_int) r_nil))) (ss_cons (ss_if (t_w (w_or (B.tis (B.var (i := 2) rfl (by decide)) e_non) (w_or1 (t_not (t_lele e_int (B.var (i := 2) rfl (by decide)) (B.gint (i := 3) rfl e4 hc_MOST_PLACES)))))) (ss_one ss_bad) ss_nil) (ss_cons (B.asg (i := 3) rfl (by decide) rfl (se_lst a_nil)) (ss_cons (Bd.for_ S (t := (.t [4, 5])) rfl (tgT (B.ts (i := 4) rfl (by decide) (B.ts (i := 5) rfl (by decide) B.ts0))) (pi_enu B.hK (B.gl' (i := 4) rfl) (B.bl' (i := 15) rfl) (a_cons (se_sl10 B.hK (se_freeze (fz := [1]) (B.var (i := 1) rfl (by decide))) e_int) a_nil)) (ss_cons (B.asg (i := 6) rfl (by decide) rfl (B.call (i := 5) (C_read_triple.to e1 e2 e3 e4 e5) rfl rfl (r_val (B.var (i := 5) rfl (by decide)) (r_val e_str r_nil)))) (ss_cons (ss_if (t_not (t_val (se_loan (fz := [3]) (B.call (i := 6) (C_can_meet.to e1 e2 e3 e4 e5) rfl rfl (r_val (B.var (i := 3) rfl (by decide)) (r_val (B.var (i := 6) rfl (by decide)) (r_val (B.var (i := 2) rfl (by decide)) r_nil))))))) (ss_one ss_bad) ss_nil) (ss_one (ss_expr (B.append (i := 3) rfl (by decide) (a_cons (B.var (i := 6) rfl (by decide)) a_nil))))))) (ss_one (ss_ret (se_tup (a_cons (B.var (i := 2) rfl (by decide)) (a_cons (B.tuple (i := 7) (j := 11) rfl rfl (a_cons (se_freeze (fz := [3]) (B.var (i := 3) rfl (by decide))) a_nil)) a_nil))))))))))))
def b_can_follow : CS := (sSeq (sIf (cApp dIs [(cVar 1), (cK .non)]) (sRet (cK (.bl false))) sNil) (sRet (cOr (cApp dEq [(cVar 0), (cApp dLst [])]) (cAnd (cApp dEq [(cApp dIx [(cApp dIx [(cVar 0), (cApp dNeg [(cK (.int 1))])]), (cK (.int 2))]), (cApp dIx [(cVar 1), (cK (.int 1))])]) (cApp dLe [(cApp dIx [(cApp dIx [(cVar 0), (cApp dNeg [(cK (.int 1))])]), (cK (.int 0))]), (cApp dIx [(cVar 1), (cK (.int 0))])])))))
def f_can_follow : Fn := runF 2 0 [] b_can_follow
def st_can_follow : Stmt := top 16
theorem sc_can_follow : FnScope ["steps", "step"] ["steps", "step"] (defScope st_can_follow) := ⟨rfl, rfl, rfl, by decide +kernel, rfl, by decide +kernel, by decide +kernel⟩
theorem cal_can_follow {P : Program} {w : World} {K : PySem.W.Frag} {mg : Str → Option Value} {base : Heap} (E : Ent K mg "can_follow" st_can_follow ["steps", "step"]) (hbl : ∀ x ∈ blL, mg x = none)   : Cal P w K mg base 1 "can_follow" ["steps", "step"] [] f_can_follow := by
  refine cal_of (N := ["steps", "step"]) (vi := [0, 1]) (lo := [0, 1]) (gl := []) (bl := blL) E sc_can_follow rfl rfl (by decide) (by decide) (by decide +kernel) hbl fun X c e1 e2 e3 e4 e5 S => ?_
  have B := S.B
  exact (ss_cons (ss_if (B.tis (B.var (i := 1) rfl (by decide)) e_non) (ss_one (ss_ret e_bl)) ss_nil) (ss_one (ss_ret (e_or (B.eq (B.var (i := 0) rfl (by decide)) (se_lst a_nil)) (e_one (e_and (B.eq (B.ix (B.ix (B.var (i := 0) rfl (by decide)) (e_neg e_int)) e_int) (B.ix (B.var (i := 1) rfl (by decide)) e_int)) (e_one (B.le (B.ix (B.ix (B.var (i := 0) rfl (by decide)) (e_neg e_int)) e_int) (B.ix (B.var (i := 1) rfl (by decide)) e_int)))))))))
def w1_read_walk : CS := (sSeq (sAsg 5 (cCall [] f_read_triple [.inl (cVar 4), .inl (cK (.str ">"))])) (sSeq (sIf (cNot (cLoan [2] (cCall [] f_can_follow [.inl (cVar 2), .inl (cVar 5)]))) sBad sNil) (sExpr (cMut 2 isLst mAppend [(cVar 5)]))))
def b_read_walk : CS := (sSeq (sExpr (cCall [] f_look_at_text [.inl (cVar 0)])) (sSeq (sIf (cApp dEq [(cVar 0), (cK (.str "-"))]) (sRet (cApp dTup [])) sNil) (sSeq (sAsg 1 (cMet isStr dSplit (cVar 0) [(cK (.str " "))])) (sSeq (sIf (cApp dEq [(cApp dIx [(cFreeze [1] (cVar 1)), (cK (.int 0))]), (cK (.str "-"))]) sBad sNil) (sSeq (sAsg 2 (cApp dLst [])) (sSeq (sFor (.t [3, 4]) (iOf gEnum [(cFreeze [1] (cVar 1))]) w1_read_walk) (sRet (cApp dToTup [(cFreeze [2] (cVar 2))]))))))))
def f_read_walk : Fn := runF 1 5 [] b_read_walk
def st_read_walk : Stmt := top 17
theorem sc_read_walk : FnScope ["thing", "pieces", "steps", "at", "piece", "step"] ["thing"] (defScope st_read_walk) := ⟨rfl, rfl, rfl, by decide +kernel, rfl, by decide +kernel, by decide +kernel⟩
theorem cal_read_walk {P : Program} {w : World} {K : PySem.W.Frag} {mg : Str → Option Value} {base : Heap} (E : Ent K mg "read_walk" st_read_walk ["thing"]) (hbl : ∀ x ∈ blL, mg x = none) (C_look_at_text : Cal P w K mg base 1 "look_at_text" ["thing"] [] f_look_at_text) (C_read_triple : Cal P w K mg base 3 "read_triple" ["piece", "mark"] [] f_read_triple) (C_can_follow : Cal P w K mg base 1 "can_follow" ["steps", "step"] [] f_can_follow)  : Cal P w K mg base 4 "read_walk" ["thing"] [] f_read_walk := by
  have C_look_at_text := C_look_at_text.mono (show 1 ≤ 3 by omega)
  have C_read_triple := C_read_triple.mono (show 3 ≤ 3 by omega)
  have C_can_follow := C_can_follow.mono (show 1 ≤ 3 by omega)
  refine cal_of (N := ["thing", "pieces", "steps", "at", "piece", "step"]) (vi := [0, 1, 2, 3, 4, 5]) (lo := [0, 1, 2, 3, 4, 5]) (gl := ["look_at_text", "NoText", "enumerate", "read_triple", "can_follow", "tuple"]) (bl := blL) E sc_read_walk rfl rfl (by decide) (by decide) (by decide +kernel) hbl fun X c e1 e2 e3 e4 e5 S => ?_
  have B := S.B
  exact (ss_cons (ss_expr (B.call (i := 0) (C_look_at_text.to e1 e2 e3 e4 e5) rfl rfl (r_val (B.var (i := 0) rfl (by decide)) r_nil))) (ss_cons (ss_if (B.teq (B.var (i := 0) rfl (by decide)) e_str) (ss_one (ss_ret (se_tup a_nil))) ss_nil) (ss_cons (B.asg (i := 1) rfl (by decide) rfl (B.split (B.var (i := 0) rfl (by decide)) (a_cons e_str a_nil))) (ss_cons (ss_if (B.teq (B.ix (se_freeze (fz := [1]) (B.var (i := 1) rfl (by decide))) e_int) e_str) (ss_one ss_bad) ss_nil) (ss_cons (B.asg (i := 2) rfl (by decide) rfl (se_lst a_nil)) (ss_cons (Bd.for_ S (t := (.t [3, 4])) rfl (tgT (B.ts (i := 3) rfl (by decide) (B.ts (i := 4) rfl (by decide) B.ts0))) (pi_enu B.hK (B.gl' (i := 2) rfl) (B.bl' (i := 15) rfl) (a_cons (se_freeze (fz := [1]) (B.var (i := 1) rfl (by decide))) a_nil)) (ss_cons (B.asg (i := 5) rfl (by decide) rfl (B.call (i := 3) (C_read_triple.to e1 e2 e3 e4 e5) rfl rfl (r_val (B.var (i := 4) rfl (by decide)) (r_val e_str r_nil)))) (ss_cons (ss_if (t_not (t_val (se_loan (fz := [2]) (B.call (i := 4) (C_can_follow.to e1 e2 e3 e4 e5) rfl rfl (r_val (B.var (i := 2) rfl (by decide)) (r_val (B.var (i := 5) rfl (by decide)) r_nil)))))) (ss_one ss_bad) ss_nil) (ss_one (ss_expr (B.append (i := 2) rfl (by decide) (a_cons (B.var (i := 5) rfl (by decide)) a_nil))))))) (ss_one (ss_ret (B.tuple (i := 5) (j := 11) rfl rfl (a_cons (se_freeze (fz := [2]) (B.var (i := 2) rfl (by decide))) a_nil))))))))))
def w1_law : CS := (sSeq (sAsg 8 (cApp dLst [(cCall [] f_web_text [.inl (cVar 3)]), (cCall [] f_walk_text [.inl (cVar 4)])])) (sSeq (sIf (cOr (cNot (cApp dAll [(cLc [9] (iVal (cFreeze [8] (cVar 8))) (.n 9) cTrue (cIsa [.str] (cVar 9)))])) (cApp dNe [(cFreeze [8] (cVar 8)), (cApp dLst [(cVar 5), (cFreeze [6] (cVar 6))])])) (sRet (cK (.bl false))) sNil) (sIf (cOr (cNot (cCall [] f_law_same [.inl (cCall [] f_read_web [.inl (cVar 5)]), .inl (cVar 3)])) (cNot (cCall [] f_law_same [.inl (cCall [] f_read_walk [.inl (cFreeze [6] (cVar 6))]), .inl (cVar 4)]))) (sRet (cK (.bl false))) sNil)))
def w2_law : CS := (sSeq (sAsg 2 (cCall [] f_law_pool [.inl (cVar 1)])) (sSeq (sAsg 3 (cCall [0] f_law_any_web [.inr 2])) (sSeq (sAsg 4 (cCall [0] f_law_any_walk [.inr 2])) (sSeq (sAsg 5 (cCall [] f_law_web_text [.inl (cVar 3)])) (sSeq (sAsg 6 (cCall [] f_law_walk_text [.inl (cVar 4)])) (sFor (.n 7) (iOf gRange1 [(cK (.int 2))]) w1_law))))))
def b_law : CS := (sSeq (sFor (.n 1) (iVal (cCall [] f_law_folded [.inl (cVar 0), .inl (cK (.int 20))])) w2_law) (sRet (cK (.bl true))))
def f_law : Fn := runF 1 9 [] b_law
def st_law : Stmt := top 28
theorem sc_law : FnScope ["script", "cell", "pool", "web", "walk", "text", "other", "turn", "found", "one"] ["script"] (defScope st_law) := ⟨rfl, rfl, rfl, by decide +kernel, rfl, by decide +kernel, by decide +kernel⟩
theorem cal_law {P : Program} {w : World} {K : PySem.W.Frag} {mg : Str → Option Value} {base : Heap} (E : Ent K mg "law" st_law ["script"]) (hbl : ∀ x ∈ blL, mg x = none) (C__law_folded : Cal P w K mg base 1 "_law_folded" ["script", "most"] [] f_law_folded) (C__law_pool : Cal P w K mg base 1 "_law_pool" ["cell"] [] f_law_pool) (C__law_any_web : Cal P w K mg base 3 "_law_any_web" ["pool"] [0] f_law_any_web) (C__law_any_walk : Cal P w K mg base 2 "_law_any_walk" ["pool"] [0] f_law_any_walk) (C__law_web_text : Cal P w K mg base 1 "_law_web_text" ["web"] [] f_law_web_text) (C__law_walk_text : Cal P w K mg base 1 "_law_walk_text" ["walk"] [] f_law_walk_text) (C_web_text : Cal P w K mg base 1 "web_text" ["web"] [] f_web_text) (C_walk_text : Cal P w K mg base 1 "walk_text" ["walk"] [] f_walk_text) (C_read_web : Cal P w K mg base 4 "read_web" ["thing"] [] f_read_web) (C__law_same : Cal P w K mg base 6 "_law_same" ["found", "due"] [] f_law_same) (C_read_walk : Cal P w K mg base 4 "read_walk" ["thing"] [] f_read_walk)  : Cal P w K mg base 7 "law" ["script"] [] f_law := by
  have C__law_folded := C__law_folded.mono (show 1 ≤ 6 by omega)
  have C__law_pool := C__law_pool.mono (show 1 ≤ 6 by omega)
  have C__law_any_web := C__law_any_web.mono (show 3 ≤ 6 by omega)
  have C__law_any_walk := C__law_any_walk.mono (show 2 ≤ 6 by omega)
  have C__law_web_text := C__law_web_text.mono (show 1 ≤ 6 by omega)
  have C__law_walk_text := C__law_walk_text.mono (show 1 ≤ 6 by omega)
  have C_web_text := C_web_text.mono (show 1 ≤ 6 by omega)
  have C_walk_text := C_walk_text.mono (show 1 ≤ 6 by omega)
  have C_read_web := C_read_web.mono (show 4 ≤ 6 by omega)
  have C__law_same := C__law_same.mono (show 6 ≤ 6 by omega)
  have C_read_walk := C_read_walk.mono (show 4 ≤ 6 by omega)
  refine cal_of (N := ["script", "cell", "pool", "web", "walk", "text", "other", "turn", "found", "one"]) (vi := [0, 1, 2, 3, 4, 5, 6, 7, 8]) (lo := [0, 1, 2, 3, 4, 5, 6, 7, 8]) (gl := ["_law_folded", "_law_pool", "_law_any_web", "_law_any_walk", "_law_web_text", "_law_walk_text", "range", "web_text", "walk_text", "all", "_law_same", "read_web", "read_walk"]) (bl := blL) E sc_law rfl rfl (by decide) (by decide) (by decide +kernel) hbl fun X c e1 e2 e3 e4 e5 S => ?_
  have B := S.B
  exact (ss_cons (Bd.for_ S (t := (.n 1)) rfl (B.tgN (i := 1) rfl (by decide)) (pi_val B.hK (B.call (i := 0) (C__law_folded.to e1 e2 e3 e4 e5) rfl rfl (r_val (B.var (i := 0) rfl (by decide)) (r_val e_int r_nil)))) (ss_cons (B.asg (i := 2) rfl (by decide) rfl (B.call (i := 1) (C__law_pool.to e1 e2 e3 e4 e5) rfl rfl (r_val (B.var (i := 1) rfl (by decide)) r_nil))) (ss_cons (B.asg (i := 3) rfl (by decide) rfl (B.call (i := 2) (C__law_any_web.to e1 e2 e3 e4 e5) rfl rfl (B.r_io (i := 2) rfl (by decide) r_nil))) (ss_cons (B.asg (i := 4) rfl (by decide) rfl (B.call (i := 3) (C__law_any_walk.to e1 e2 e3 e4 e5) rfl rfl (B.r_io (i := 2) rfl (by decide) r_nil))) (ss_cons (B.asg (i := 5) rfl (by decide) rfl (B.call (i := 4) (C__law_web_text.to e1 e2 e3 e4 e5) rfl rfl (r_val (B.var (i := 3) rfl (by decide)) r_nil))) (ss_cons (B.asg (i := 6) rfl (by decide) rfl (B.call (i := 5) (C__law_walk_text.to e1 e2 e3 e4 e5) rfl rfl (r_val (B.var (i := 4) rfl (by decide)) r_nil))) (ss_one (Bd.for_ S (t := (.n 7)) rfl (B.tgN (i := 7) rfl (by decide)) (pi_rng1 (B.gl' (i := 6) rfl) (B.bl' (i := 14) rfl) (a_cons e_int a_nil)) (ss_cons (B.asg (i := 8) rfl (by decide) rfl (se_lst (a_cons (B.call (i := 7) (C_web_text.to e1 e2 e3 e4 e5) rfl rfl (r_val (B.var (i := 3) rfl (by decide)) r_nil)) (a_cons (B.call (i := 8) (C_walk_text.to e1 e2 e3 e4 e5) rfl rfl (r_val (B.var (i := 4) rfl (by decide)) r_nil)) a_nil)))) (ss_cons (ss_if (t_w (w_or (t_not (t_val (B.all (i := 9) (j := 4) rfl rfl (a_cons (B.lc (own := [("one", 9)]) (vi' := [9]) (lo' := [9]) (gl' := ["isinstance", "str"]) (by decide +kernel) (pi_val B.hK (se_freeze (fz := [8]) (B.var (i := 8) rfl (by decide)))) (fun Y f11 f12 f13 f14 f15 B1 => ⟨(B1.tgN (i := 9) rfl (by decide)), sc_none, (B1.isaStr (i := 0) (j := 13) (i2 := 1) (j2 := 9) rfl rfl rfl rfl (B1.var (i := 9) rfl (by decide)))⟩)) a_nil)))) (w_or1 (B.tne (se_freeze (fz := [8]) (B.var (i := 8) rfl (by decide))) (se_lst (a_cons (B.var (i := 5) rfl (by decide)) (a_cons (se_freeze (fz := [6]) (B.var (i := 6) rfl (by decide))) a_nil))))))) (ss_one (ss_ret e_bl)) ss_nil) (ss_one (ss_if (t_w (w_or (t_not (t_val (B.call (i := 10) (C__law_same.to e1 e2 e3 e4 e5) rfl rfl (r_val (B.call (i := 11) (C_read_web.to e1 e2 e3 e4 e5) rfl rfl (r_val (B.var (i := 5) rfl (by decide)) r_nil)) (r_val (B.var (i := 3) rfl (by decide)) r_nil))))) (w_or1 (t_not (t_val (B.call (i := 10) (C__law_same.to e1 e2 e3 e4 e5) rfl rfl (r_val (B.call (i := 12) (C_read_walk.to e1 e2 e3 e4 e5) rfl rfl (r_val (se_freeze (fz := [6]) (B.var (i := 6) rfl (by decide))) r_nil)) (r_val (B.var (i := 4) rfl (by decide)) r_nil)))))))) (ss_one (ss_ret e_bl)) ss_nil)))))))))))) (ss_one (ss_ret e_bl)))
end K87

namespace K87
open PySem L2 VL
abbrev P3 (a b c : Int) : D := .lst true [.int a, .int b, .int c]
def PoolD (d : D) : Prop := ∃ a b c : Int, d = P3 a b c
theorem next_ok (p : D) (hp : PoolD p) (base : Int) (h0 : 0 < base) (h1 : base < 18446744073709551616) : ∃ d q, PoolD q ∧ f_law_next [p, .int base] = .ok (.int d) [q] ∧ 0 ≤ d ∧ d < base := by
  obtain ⟨p0, p1, p2, rfl⟩ := hp
  unfold f_law_next
  rw [runF2]
  unfold b_law_next
  by_cases hp : 0 < p0
  · refine ⟨p0 % base, P3 (p0 / base) p1 p2, ⟨_, _, _, rfl⟩, ?_, Int.emod_nonneg _ (by omega), Int.emod_lt_of_pos _ h0⟩
    simp [hp, h0, h1, mod_p, div_p, setL_ok]
  · have e1 : 0 ≤ (p1 + 7919 * (p2 + 1)) % 1000000007 := Int.emod_nonneg _ (by decide)
    have e2 : (p1 + 7919 * (p2 + 1)) % 1000000007 < 1000000007 := Int.emod_lt_of_pos _ (by decide)
    generalize hn : (p1 + 7919 * (p2 + 1)) % 1000000007 = near at e1 e2
    have e3 : 0 ≤ ((near + 11) * (near + 48271)) % 998244353 := Int.emod_nonneg _ (by decide)
    have e4 : ((near + 11) * (near + 48271)) % 998244353 < 998244353 := Int.emod_lt_of_pos _ (by decide)
    generalize hs : ((near + 11) * (near + 48271)) % 998244353 = stir at e3 e4
    refine ⟨(stir * stir) % 2147483647 / 8 % base, P3 p0 p1 (p2 + 1), ⟨_, _, _, rfl⟩, ?_, Int.emod_nonneg _ (by omega), Int.emod_lt_of_pos _ h0⟩
    simp [hp, h0, h1, mod_p, div_p, setL_ok, mul_l, hn, hs, show -18446744073709551616 < near + 11 by omega, show near + 11 < 18446744073709551616 by omega, show -18446744073709551616 < stir by omega, show stir < 18446744073709551616 by omega]
theorem pool_ok (cell : Int) : ∃ q, PoolD q ∧ f_law_pool [.int cell] = .ok q [] := by
  refine ⟨P3 (max 0 (cell - 10 ^ 18)) (cell % 10 ^ 18) 0, ⟨_, _, _, rfl⟩, ?_⟩
  simp [f_law_pool, b_law_pool, pow_p, mod_p, lst_n]
theorem oTP (q : D) (h : PoolD q) (e : List D) (i : Nat) : oT (some q) e i = .ok q (e.set i .dead) := by
  obtain ⟨_, _, _, rfl⟩ := h; rfl
theorem deadP (q : D) (h : PoolD q) : q.isDead = false := by obtain ⟨_, _, _, rfl⟩ := h; rfl
theorem mrgP (q d : D) (h : PoolD q) : mrg1 false d q = q := by obtain ⟨_, _, _, rfl⟩ := h; rfl
theorem moment_ok (p : D) (hp : PoolD p) (kind : Int) (h0 : 0 ≤ kind) (h1 : kind ≤ 4) : ∃ m q, PoolD q ∧ f_law_moment [p, .int kind] = .ok (.int m) [q] ∧ -1000000000 ≤ m ∧ m ≤ 1000000000 := by
  unfold f_law_moment
  rw [runF2]
  unfold b_law_moment
  by_cases h4 : kind = 4
  · subst h4
    obtain ⟨n1, q1, hq1, r1, a1, b1⟩ := next_ok p hp 100000 (by decide) (by decide)
    obtain ⟨n2, q2, hq2, r2, a2, b2⟩ := next_ok q1 hq1 100000 (by decide) (by decide)
    obtain ⟨n3, q3, hq3, r3, a3, b3⟩ := next_ok q2 hq2 3 (by decide) (by decide)
    have e1 : 0 ≤ (n1 * 100000 + n2) % 2000000001 := Int.emod_nonneg _ (by decide)
    have e2 : (n1 * 100000 + n2) % 2000000001 < 2000000001 := Int.emod_lt_of_pos _ (by decide)
    have : n3 = 0 ∨ n3 = 1 ∨ n3 = 2 := by omega
    rcases this with rfl | rfl | rfl
    · refine ⟨1000000000, q3, hq3, ?_, by decide, by decide⟩
      simp [oTP, hp, hq1, hq2, hq3, r1, r2, r3, mul_r, pow_p, mod_p, lst_n, deadP]
    · refine ⟨-1000000000, q3, hq3, ?_, by decide, by decide⟩
      simp [oTP, hp, hq1, hq2, hq3, r1, r2, r3, mul_r, pow_p, mod_p, lst_n, deadP]
    · refine ⟨(n1 * 100000 + n2) % 2000000001 - 1000000000, q3, hq3, ?_, by omega, by omega⟩
      simp [oTP, hp, hq1, hq2, hq3, r1, r2, r3, mul_r, pow_p, mod_p, lst_n, deadP]
  · have : kind = 0 ∨ kind = 1 ∨ kind = 2 ∨ kind = 3 := by omega
    rcases this with rfl | rfl | rfl | rfl
    · obtain ⟨n1, q1, hq1, r1, a1, b1⟩ := next_ok p hp 7 (by decide) (by decide)
      refine ⟨n1, q1, hq1, ?_, by omega, by omega⟩
      simp [oTP, hp, hq1, r1, mul_l, pow_p, mod_p, lst_n, deadP]
    · obtain ⟨n1, q1, hq1, r1, a1, b1⟩ := next_ok p hp 31 (by decide) (by decide)
      refine ⟨n1, q1, hq1, ?_, by omega, by omega⟩
      simp [oTP, hp, hq1, r1, mul_l, pow_p, mod_p, lst_n, deadP]
    · obtain ⟨n1, q1, hq1, r1, a1, b1⟩ := next_ok p hp 9 (by decide) (by decide)
      refine ⟨3 * n1, q1, hq1, ?_, by omega, by omega⟩
      simp [oTP, hp, hq1, r1, mul_l, pow_p, mod_p, lst_n, deadP]
    · obtain ⟨n1, q1, hq1, r1, a1, b1⟩ := next_ok p hp 21 (by decide) (by decide)
      refine ⟨-10 + n1, q1, hq1, ?_, by omega, by omega⟩
      simp [oTP, hp, hq1, r1, mul_l, pow_p, mod_p, lst_n, deadP]
abbrev T := Int × Int × Int
def kt (t : T) : List Int := [t.1, t.2.1, t.2.2]
theorem kt_inj : ∀ a b : T, kt a = kt b → a = b := fun ⟨a, b, c⟩ ⟨a', b', c'⟩ h => by
  simp only [kt, List.cons.injEq] at h
  obtain ⟨h1, h2, h3, _⟩ := h
  rw [h1, h2, h3]
theorem kt_ne : ∀ t : T, kt t ≠ [] := fun t h => by cases h
theorem rowT (a b c : Int) : D.tup [.int a, .int b, .int c] = rowD (kt (a, b, c)) := rfl
structure MeetOk (many : Int) (t : T) : Prop where
  m1 : -1000000000 ≤ t.1
  m2 : t.1 ≤ 1000000000
  a : 0 ≤ t.2.1
  ab : t.2.1 < t.2.2
  b : t.2.2 < many
/-- a web: its number of places, its meetings -/
structure WebOk (many : Int) (ts : List T) : Prop where
  m1 : 1 ≤ many
  m7 : many ≤ 7
  ok : ∀ t ∈ ts, MeetOk many t
  len : ts.length ≤ 24
  up : ts.Pairwise fun a b => kt a < kt b
def webD (many : Int) (ts : List T) : D := .tup [.int many, .tup (ts.map fun t => rowD (kt t))]
abbrev meets (o : Bool) (ts : List T) : D := setD kt (.bl true) o ts
theorem any_web_ok (p : D) (hp : PoolD p) : ∃ many ts q, PoolD q ∧ WebOk many ts ∧ f_law_any_web [p] = .ok (webD many ts) [q] := by
  obtain ⟨n0, q1, hq1, r1, a1, b1⟩ := next_ok p hp 7 (by decide) (by decide)
  obtain ⟨kind, q2, hq2, r2, a2, b2⟩ := next_ok q1 hq1 5 (by decide) (by decide)
  obtain ⟨n3, q3, hq3, r3, a3, b3⟩ := next_ok q2 hq2 25 (by decide) (by decide)
  obtain ⟨n4, q4, hq4, r4, a4, b4⟩ := next_ok q3 hq3 2 (by decide) (by decide)
  obtain ⟨many, hm⟩ : ∃ many, many = 1 + n0 := ⟨_, rfl⟩
  -- how many turns
  obtain ⟨turns, ht, ht2, ht3⟩ : ∃ turns : Int, (match atI [24, n3] n4 with | some c => c * (if 1 < many then 1 else 0) | none => 0) = turns ∧ 0 ≤ turns ∧ turns ≤ 24 ∧ (turns = 0 ∨ 1 < many) := by
    have : n4 = 0 ∨ n4 = 1 := by omega
    by_cases h : 1 < many
    · rcases this with rfl | rfl <;> simp [h] <;> omega
    · rcases this with rfl | rfl <;> simp [h]
  have step : ∀ (i : Nat) (d : D) (e : List D), ((List.range turns.toNat).map fun (i : Nat) => D.int i)[i]? = some d → (∃ q ts x4 x5 x6, e = [q, .int many, .int kind, meets true ts, x4, x5, x6] ∧ PoolD q ∧ ts.Nodup ∧ ts.length ≤ 0 + i ∧ ∀ t ∈ ts, MeetOk many t) →
      ∃ e1, Tr.set (.n 4) d e = some e1 ∧ ∃ e2, (w1_law_any_web e1 = .nx e2 ∨ w1_law_any_web e1 = .ct e2) ∧ (∃ q ts x4 x5 x6, e2 = [q, .int many, .int kind, meets true ts, x4, x5, x6] ∧ PoolD q ∧ ts.Nodup ∧ ts.length ≤ 0 + i + 1 ∧ ∀ t ∈ ts, MeetOk many t) := by
    rintro i d e hd ⟨q, ts, x4, x5, x6, rfl, hq, nd, hlen, hok⟩
    have hi := (List.getElem?_eq_some_iff.mp hd).1
    simp at hi
    have h1 : 1 < many := by omega
    obtain ⟨one, p1, hp1, s1, c1, d1⟩ := next_ok q hq many (by omega) (by omega)
    obtain ⟨two, p2, hp2, s2, c2, d2⟩ := next_ok p1 hp1 (many - 1) (by omega) (by omega)
    obtain ⟨m, p3, hp3, s3, c3, d3⟩ := moment_ok p2 hp2 kind a2 (by omega)
    have e3 : 0 ≤ (one + 1 + two) % many := Int.emod_nonneg _ (by omega)
    have e4 : (one + 1 + two) % many < many := Int.emod_lt_of_pos _ (by omega)
    have e5 : (one + 1 + two) % many ≠ one := fun e => by
      have h2 : (one + 1 + two - one) % many = 0 := by rw [Int.sub_emod, e, Int.emod_eq_of_lt c1 d1, Int.sub_self]; exact Int.zero_emod _
      have h3 : one + 1 + two - one = 1 + two := by omega
      rw [h3, Int.emod_eq_of_lt (by omega) (by omega)] at h2
      omega
    generalize ho : (one + 1 + two) % many = other at e3 e4 e5
    have put := put_set kt (.bl true) kt_inj rfl ts (m, min one other, max one other) (by omega)
    rw [← rowT] at put
    refine ⟨_, rfl, [p3, .int many, .int kind, meets true (putS ts (m, min one other, max one other)), d, .int one, .int other], .inl ?_, p3, _, d, _, _, rfl, hp3, putS_nodup nd, ?_, fun t ht => ?_⟩
    · simp [w1_law_any_web, oTP, hq, hp1, hp2, hp3, s1, s2, s3, deadP, mod_p, show 0 < many by omega, ho, tup_n, put]
      rfl
    · have := putS_len ts (m, min one other, max one other)
      omega
    · rcases putS_mem ht with h | rfl
      · exact hok t h
      · exact ⟨c3, d3, by simp; omega, by simp; omega, by simp; omega⟩
  obtain ⟨e', hl, q, ts, x4, x5, x6, rfl, hq, nd, hlen, hok⟩ := loop_inv (tg := .n 4) (body := w1_law_any_web)
      (fun i e => ∃ q ts x4 x5 x6, e = [q, .int many, .int kind, meets true ts, x4, x5, x6] ∧ PoolD q ∧ ts.Nodup ∧ ts.length ≤ i ∧ ∀ t ∈ ts, MeetOk many t) ((List.range turns.toNat).map fun (i : Nat) => D.int i) 0 [q4, .int many, .int kind, .dt true [] [], .dead, .dead, .dead]
      ⟨q4, [], .dead, .dead, .dead, rfl, hq4, List.nodup_nil, Nat.le_refl _, fun t m => by cases m⟩ step
  simp at hlen
  have srt := sorted_set kt (.bl true) kt_ne false ts (by omega)
  refine ⟨many, ts.mergeSort fun a b => decide (kt a ≤ kt b), q, hq, ⟨by omega, by omega, fun t m => hok t ((List.mergeSort_perm _ _).mem_iff.mp m), by rw [List.length_mergeSort]; omega, rising kt kt_inj ts nd⟩, ?_⟩
  subst hm
  have gr := range1 turns (by omega) (by omega)
  have fzm : (meets true ts).frz = meets false ts := frz_set kt (.bl true) rfl true ts
  have ovm : ∀ e, oV (some (meets false ts)) e = .ok (meets false ts) e := fun e => oV_some _ _ (by show (false || ownL (ts.map fun _ => D.bl true)) = false; rw [ownL_map _ (fun _ => rfl)]; rfl) rfl
  have h4 : n4 = 0 ∨ n4 = 1 := by omega
  unfold f_law_any_web
  rw [runF1]
  unfold b_law_any_web
  rcases h4 with rfl | rfl <;> by_cases h : 0 < n0 <;> simp [h] at ht <;> subst ht <;> (try simp at gr) <;> (try simp at hl) <;>
    simp [oTP, hp, hq1, hq2, hq3, hq4, hq, r1, r2, r3, r4, deadP, lst_n, mul_l, h, gr, hl, srt, fzm, ovm, toTup_l, tup_n, webD,
      show -18446744073709551616 < n3 by omega, show n3 < 18446744073709551616 by omega]
end K87

namespace K87
open PySem L2 VL
structure StepOk (t : T) : Prop where
  m1 : -100000000000000000000000000000 ≤ t.1
  m2 : t.1 < 1000000000000000000000000000000
  a : 0 ≤ t.2.1
  a7 : t.2.1 < 7
  b : 0 ≤ t.2.2
  b7 : t.2.2 < 7
  ne : t.2.1 ≠ t.2.2
def Fol (ts : List T) : Prop := ∀ i s t, ts[i]? = some s → ts[i + 1]? = some t → s.2.2 = t.2.1 ∧ s.1 ≤ t.1
theorem fol_snoc {ts : List T} {t : T} (h : Fol ts) (hl : ∀ s, ts.getLast? = some s → s.2.2 = t.2.1 ∧ s.1 ≤ t.1) : Fol (ts ++ [t]) := fun i s u h1 h2 => by
  by_cases e : i + 1 < ts.length
  · rw [List.getElem?_append_left (by omega)] at h1
    rw [List.getElem?_append_left e] at h2
    exact h i s u h1 h2
  · by_cases e2 : i + 1 = ts.length
    · rw [List.getElem?_append_left (by omega)] at h1
      rw [List.getElem?_append_right (by omega), e2, Nat.sub_self] at h2
      cases h2
      exact hl s (by rw [List.getLast?_eq_getElem?, ← e2, Nat.add_sub_cancel]; exact h1)
    · rw [List.getElem?_append_right (by omega)] at h2
      rw [List.getElem?_eq_none (by simp; omega)] at h2
      cases h2
structure WalkOk (ts : List T) : Prop where
  ok : ∀ t ∈ ts, StepOk t
  len : ts.length ≤ 12
  fol : Fol ts
def rowsD (ts : List T) : D := .tup (ts.map fun t => rowD (kt t))
theorem any_walk_ok (p : D) (hp : PoolD p) : ∃ ts q, PoolD q ∧ WalkOk ts ∧ f_law_any_walk [p] = .ok (rowsD ts) [q] := by
  obtain ⟨place, q1, hq1, r1, a1, b1⟩ := next_ok p hp 7 (by decide) (by decide)
  obtain ⟨n2, q2, hq2, r2, a2, b2⟩ := next_ok q1 hq1 100 (by decide) (by decide)
  obtain ⟨n3, q3, hq3, r3, a3, b3⟩ := next_ok q2 hq2 4 (by decide) (by decide)
  obtain ⟨n4, q4, hq4, r4, a4, b4⟩ := next_ok q3 hq3 13 (by decide) (by decide)
  obtain ⟨m0, hm0, l1, l2⟩ : ∃ m0 : Int, atI [0, -100000000000000000000000000000, -n2, 1000000000000000000000000000000 - 200000000000000] n3 = some m0 ∧ -100000000000000000000000000000 ≤ m0 ∧ m0 ≤ 1000000000000000000000000000000 - 200000000000000 := by
    have : n3 = 0 ∨ n3 = 1 ∨ n3 = 2 ∨ n3 = 3 := by omega
    rcases this with rfl | rfl | rfl | rfl <;> simp <;> omega
  have step : ∀ (i : Nat) (d : D) (e : List D), ((List.range n4.toNat).map fun (i : Nat) => D.int i)[i]? = some d → (∃ q pl m ts x4 x5, e = [q, .int pl, .int m, .lst true (ts.map fun t => rowD (kt t)), x4, x5] ∧ PoolD q ∧ 0 ≤ pl ∧ pl < 7 ∧ m0 ≤ m ∧ m ≤ m0 + 1000000000 * ((0 + i : Nat) : Int) ∧ ts.length = 0 + i ∧ (∀ t ∈ ts, StepOk t) ∧ Fol ts ∧ ∀ s, ts.getLast? = some s → s.2.2 = pl ∧ s.1 = m) →
      ∃ e1, Tr.set (.n 4) d e = some e1 ∧ ∃ e2, (w1_law_any_walk e1 = .nx e2 ∨ w1_law_any_walk e1 = .ct e2) ∧ (∃ q pl m ts x4 x5, e2 = [q, .int pl, .int m, .lst true (ts.map fun t => rowD (kt t)), x4, x5] ∧ PoolD q ∧ 0 ≤ pl ∧ pl < 7 ∧ m0 ≤ m ∧ m ≤ m0 + 1000000000 * ((0 + i + 1 : Nat) : Int) ∧ ts.length = 0 + i + 1 ∧ (∀ t ∈ ts, StepOk t) ∧ Fol ts ∧ ∀ s, ts.getLast? = some s → s.2.2 = pl ∧ s.1 = m) := by
    rintro i d e hd ⟨q, pl, m, ts, x4, x5, rfl, hq, c1, c2, c3, c4, hlen, hok, hf, hlast⟩
    have hi := (List.getElem?_eq_some_iff.mp hd).1
    simp at hi
    obtain ⟨one, p1, hp1, s1, d1, f1⟩ := next_ok q hq 6 (by decide) (by decide)
    obtain ⟨two, p2, hp2, s2, d2, f2⟩ := next_ok p1 hp1 100 (by decide) (by decide)
    obtain ⟨thr, p3, hp3, s3, d3, f3⟩ := next_ok p2 hp2 1000000000 (by decide) (by decide)
    obtain ⟨fou, p4, hp4, s4, d4, f4⟩ := next_ok p3 hp3 4 (by decide) (by decide)
    have e3 : 0 ≤ (pl + 1 + one) % 7 := Int.emod_nonneg _ (by omega)
    have e4 : (pl + 1 + one) % 7 < 7 := Int.emod_lt_of_pos _ (by omega)
    have e5 : (pl + 1 + one) % 7 ≠ pl := by omega
    generalize ho : (pl + 1 + one) % 7 = other at e3 e4 e5
    obtain ⟨inc, hinc, i1, i2⟩ : ∃ inc : Int, atI [0, 1, two, thr] fou = some inc ∧ 0 ≤ inc ∧ inc ≤ 1000000000 := by
      have : fou = 0 ∨ fou = 1 ∨ fou = 2 ∨ fou = 3 := by omega
      rcases this with rfl | rfl | rfl | rfl <;> simp <;> omega
    have hix : atI [D.int 0, D.int 1, D.int two, D.int thr] fou = some (.int inc) := by
      have : fou = 0 ∨ fou = 1 ∨ fou = 2 ∨ fou = 3 := by omega
      rcases this with rfl | rfl | rfl | rfl <;> simp at hinc ⊢ <;> first | exact hinc | (rw [hinc])
    have app : mAppend (.lst true (ts.map fun t => rowD (kt t))) [.tup [.int (m + inc), .int pl, .int other]] = some (.non, .lst true ((ts ++ [(m + inc, pl, other)]).map fun t => rowD (kt t))) := by
      rw [app_ok' _ _ (by simp; omega), List.map_append]
      rfl
    refine ⟨_, rfl, [p4, .int other, .int (m + inc), .lst true ((ts ++ [(m + inc, pl, other)]).map fun t => rowD (kt t)), d, .int other], .inl ?_, p4, other, m + inc, ts ++ [(m + inc, pl, other)], d, _, rfl, hp4, e3, e4, by omega, by omega, by simp [hlen], ?_, fol_snoc hf ?_, ?_⟩
    · simp [w1_law_any_walk, oTP, hq, hp1, hp2, hp3, hp4, s1, s2, s3, s4, deadP, mod_p, ho, tup_n, lst_n, hix, app, pow_p, -List.map_append]
    · intro t ht
      rcases List.mem_append.mp ht with h | h
      · exact hok t h
      · rw [List.mem_singleton.mp h]
        exact ⟨by simp; omega, by simp; omega, by simpa using c1, by simpa using c2, by simpa using e3, by simpa using e4, by simpa using Ne.symm e5⟩
    · intro s hs
      obtain ⟨g1, g2⟩ := hlast s hs
      exact ⟨g1, by simp; omega⟩
    · intro s hs
      simp at hs
      subst hs
      exact ⟨rfl, rfl⟩
  obtain ⟨e', hl, q, pl, m, ts, x4, x5, rfl, hq, c1, c2, c3, c4, hlen, hok, hf, hlast⟩ := loop_inv (tg := .n 4) (body := w1_law_any_walk)
      (fun i e => ∃ q pl m ts x4 x5, e = [q, .int pl, .int m, .lst true (ts.map fun t => rowD (kt t)), x4, x5] ∧ PoolD q ∧ 0 ≤ pl ∧ pl < 7 ∧ m0 ≤ m ∧ m ≤ m0 + 1000000000 * (i : Int) ∧ ts.length = i ∧ (∀ t ∈ ts, StepOk t) ∧ Fol ts ∧ ∀ s, ts.getLast? = some s → s.2.2 = pl ∧ s.1 = m) ((List.range n4.toNat).map fun (i : Nat) => D.int i) 0 [q4, .int place, .int m0, .lst true [], .dead, .dead]
      ⟨q4, place, m0, [], .dead, .dead, rfl, hq4, a1, b1, by omega, by simp, rfl, (fun t m => by cases m), (fun i s t h _ => by simp at h), (fun s h => by simp at h)⟩ step
  simp at hlen
  refine ⟨ts, q, hq, ⟨hok, by omega, hf⟩, ?_⟩
  have gr := range1 n4 (by omega) (by omega)
  have h3 : n3 = 0 ∨ n3 = 1 ∨ n3 = 2 ∨ n3 = 3 := by omega
  unfold f_law_any_walk
  rw [runF1]
  unfold b_law_any_walk
  rcases h3 with rfl | rfl | rfl | rfl <;> simp at hm0 <;> subst hm0 <;> (try simp at hl) <;>
    simp [oTP, hp, hq1, hq2, hq3, hq4, hq, r1, r2, r3, r4, deadP, lst_n, mul_r, pow_p, gr, hl, toTup_l, tup_n, rowsD]
end K87

namespace K87
open PySem L2 VL
theorem l_colon : Str.ofString ":" = S [58] := by rw [S_lit]; rfl
theorem l_minus : Str.ofString "-" = S [45] := by rw [S_lit]; rfl
theorem l_more : Str.ofString ">" = S [62] := by rw [S_lit]; rfl
theorem l_blank : Str.ofString " " = S [32] := by rw [S_lit]; rfl
theorem l_web : Str.ofString "web" = S [119, 101, 98] := by rw [S_lit]; rfl
theorem l_webb : Str.ofString "web " = S [119, 101, 98, 32] := by rw [S_lit]; rfl
theorem l_empty : Str.ofString "" = S [] := by rw [S_lit]; rfl
theorem l_zero : Str.ofString "0" = S [48] := by rw [S_lit]; rfl
theorem l_digits : Str.ofString "0123456789" = S [48, 49, 50, 51, 52, 53, 54, 55, 56, 57] := by rw [S_lit]; rfl
structure Small (t : T) : Prop where
  m : t.1.natAbs < 10 ^ 31
  a : t.2.1.natAbs < 10
  b : t.2.2.natAbs < 10
def piece (s : Nat) (t : T) : List Nat := num t.1 ++ 58 :: (num t.2.1 ++ s :: num t.2.2)
theorem Small.l1 {t : T} (h : Small t) : (num t.1).length ≤ 32 := num_len (k := 31) (by decide) h.m
theorem Small.l2 {t : T} (h : Small t) : (num t.2.1).length ≤ 2 := num_len (k := 1) (by decide) h.a
theorem Small.l3 {t : T} (h : Small t) : (num t.2.2).length ≤ 2 := num_len (k := 1) (by decide) h.b
theorem Small.s1 {t : T} (h : Small t) : dStr [.int t.1] = some (.str (S (num t.1))) := str_i _ (Nat.lt_trans h.m (by decide))
theorem Small.s2 {t : T} (h : Small t) : dStr [.int t.2.1] = some (.str (S (num t.2.1))) := str_i _ (Nat.lt_trans h.a (by decide))
theorem Small.s3 {t : T} (h : Small t) : dStr [.int t.2.2] = some (.str (S (num t.2.2))) := str_i _ (Nat.lt_trans h.b (by decide))
theorem piece_len (s : Nat) {t : T} (h : Small t) : (piece s t).length ≤ 38 := by
  have := h.l1; have := h.l2; have := h.l3
  simp [piece]; omega
theorem Small.p1 {t : T} (h : Small t) : dAdd [.str (S (num t.1)), .str (S [58])] = some (.str (S (num t.1 ++ [58]))) := addS _ _ (by have := h.l1; simp; omega)
theorem Small.p2 {t : T} (h : Small t) : dAdd [.str (S (num t.1 ++ [58])), .str (S (num t.2.1))] = some (.str (S (num t.1 ++ 58 :: num t.2.1))) := by
  rw [addS _ _ (by have := h.l1; have := h.l2; simp; omega)]; simp
theorem Small.p3 {t : T} (h : Small t) (s : Nat) : dAdd [.str (S (num t.1 ++ 58 :: num t.2.1)), .str (S [s])] = some (.str (S (num t.1 ++ 58 :: (num t.2.1 ++ [s])))) := by
  rw [addS _ _ (by have := h.l1; have := h.l2; simp; omega)]; simp
theorem Small.p4 {t : T} (h : Small t) (s : Nat) : dAdd [.str (S (num t.1 ++ 58 :: (num t.2.1 ++ [s]))), .str (S (num t.2.2))] = some (.str (S (piece s t))) := by
  rw [addS _ _ (by have := h.l1; have := h.l2; have := h.l3; simp; omega)]; simp [piece]
/-! with what stands ahead -/
section
variable {t : T} (h : Small t) (l : List Nat) (hl : l.length ≤ 5000)
include h hl
theorem q0 : dAdd [.str (S l), .str (S [32])] = some (.str (S (l ++ [32]))) := addS _ _ (by simp; omega)
theorem q1 : dAdd [.str (S (l ++ [32])), .str (S (num t.1))] = some (.str (S (l ++ 32 :: num t.1))) := by
  rw [addS _ _ (by have := h.l1; simp; omega)]; simp
theorem q2 : dAdd [.str (S (l ++ 32 :: num t.1)), .str (S [58])] = some (.str (S (l ++ 32 :: (num t.1 ++ [58])))) := by
  rw [addS _ _ (by have := h.l1; simp; omega)]; simp
theorem q3 : dAdd [.str (S (l ++ 32 :: (num t.1 ++ [58]))), .str (S (num t.2.1))] = some (.str (S (l ++ 32 :: (num t.1 ++ 58 :: num t.2.1)))) := by
  rw [addS _ _ (by have := h.l1; have := h.l2; simp; omega)]; simp
theorem q4 (s : Nat) : dAdd [.str (S (l ++ 32 :: (num t.1 ++ 58 :: num t.2.1))), .str (S [s])] = some (.str (S (l ++ 32 :: (num t.1 ++ 58 :: (num t.2.1 ++ [s]))))) := by
  rw [addS _ _ (by have := h.l1; have := h.l2; simp; omega)]; simp
theorem q5 (s : Nat) : dAdd [.str (S (l ++ 32 :: (num t.1 ++ 58 :: (num t.2.1 ++ [s])))), .str (S (num t.2.2))] = some (.str (S (l ++ 32 :: piece s t))) := by
  rw [addS _ _ (by have := h.l1; have := h.l2; have := h.l3; simp; omega)]; simp [piece]
end
/-- pieces, each behind a blank -/
def flat (s : Nat) (ts : List T) : List Nat := (ts.map fun t => 32 :: piece s t).flatten
theorem joinL_flat (s : Nat) (p : List Nat) (ts : List T) : TL.joinL [32] (p :: ts.map (piece s)) = p ++ flat s ts := by
  induction ts generalizing p with
  | nil => simp [TL.joinL, flat]
  | cons t ts ih =>
    show p ++ ([32] ++ TL.joinL [32] (piece s t :: ts.map (piece s))) = _
    rw [ih]
    simp [flat]
theorem flat_len (s : Nat) : ∀ ts : List T, (∀ t ∈ ts, Small t) → (flat s ts).length ≤ 39 * ts.length
  | [], _ => by simp [flat]
  | t :: ts, h => by
    have h1 := flat_len s ts fun u m => h u (List.mem_cons_of_mem _ m)
    have h2 := piece_len s (h t List.mem_cons_self)
    have e : flat s (t :: ts) = 32 :: piece s t ++ flat s ts := by simp [flat]
    rw [e]
    simp
    omega
theorem lw_loop (w : D) (s : Nat) (body : CS) (hb : ∀ (t : T) (l : List Nat) (x2 x3 x4 : D), Small t → l.length ≤ 5000 → ∃ y2 y3 y4, body [w, .str (S l), .int t.1, .int t.2.1, .int t.2.2] = .nx [w, .str (S (l ++ 32 :: piece s t)), y2, y3, y4]) :
    ∀ (ts : List T) (l : List Nat) (x2 x3 x4 : D), (∀ t ∈ ts, Small t) → l.length + 39 * ts.length ≤ 5000 → ∃ y2 y3 y4, loopF (.t [2, 3, 4]) body (ts.map fun t => rowD (kt t)) [w, .str (S l), x2, x3, x4] = .nx [w, .str (S (l ++ flat s ts)), y2, y3, y4]
  | [], l, x2, x3, x4, _, _ => ⟨x2, x3, x4, by simp [loopF, flat]⟩
  | t :: ts, l, x2, x3, x4, h, hl => by
    obtain ⟨y2, y3, y4, e1⟩ := hb t l x2 x3 x4 (h t List.mem_cons_self) (by omega)
    have h2 := piece_len s (h t List.mem_cons_self)
    obtain ⟨z2, z3, z4, e2⟩ := lw_loop w s body hb ts (l ++ 32 :: piece s t) y2 y3 y4 (fun u m => h u (List.mem_cons_of_mem _ m)) (by simp at hl ⊢; omega)
    refine ⟨z2, z3, z4, ?_⟩
    have es : Tr.set (.t [2, 3, 4]) (rowD (kt t)) [w, .str (S l), x2, x3, x4] = some [w, .str (S l), .int t.1, .int t.2.1, .int t.2.2] := rfl
    rw [List.map_cons]
    unfold loopF
    rw [es]
    simp only
    rw [e1]
    simp only
    rw [e2]
    simp [flat]
def webL (many : Int) (ts : List T) : List Nat := TL.joinL [32] ([119, 101, 98] :: num many :: ts.map (piece 45))
def walkL (ts : List T) : List Nat := if ts = [] then [45] else TL.joinL [32] (ts.map (piece 62))
theorem webL_eq (many : Int) (ts : List T) : webL many ts = [119, 101, 98, 32] ++ num many ++ flat 45 ts := by
  show [119, 101, 98] ++ ([32] ++ TL.joinL [32] (num many :: ts.map (piece 45))) = _
  rw [joinL_flat]
  simp
theorem law_web_text_ok (many : Int) (hm : many.natAbs < 10) (ts : List T) (h : ∀ t ∈ ts, Small t) (hl : ts.length ≤ 60) : f_law_web_text [webD many ts] = .ok (.str (S (webL many ts))) [] := by
  have sm : dStr [.int many] = some (.str (S (num many))) := str_i _ (Nat.lt_trans hm (by decide))
  have lm : (num many).length ≤ 2 := num_len (k := 1) (by decide) hm
  obtain ⟨y2, y3, y4, e⟩ := lw_loop (webD many ts) 45 w1_law_web_text (fun t l _ _ _ ht hl => ⟨.int t.1, .int t.2.1, .int t.2.2, by
    simp [w1_law_web_text, l_blank, l_colon, l_minus, ht.s1, ht.s2, ht.s3, q0 ht l hl, q1 ht l hl, q2 ht l hl, q3 ht l hl, q4 ht l hl, q5 ht l hl, webD]⟩) ts ([119, 101, 98, 32] ++ num many) .dead .dead .dead h (by simp; omega)
  have a1 : dAdd [.str (S [119, 101, 98, 32]), .str (S (num many))] = some (.str (S ([119, 101, 98, 32] ++ num many))) := addS _ _ (by simp; omega)
  rw [webL_eq]
  unfold f_law_web_text
  rw [runF1]
  unfold b_law_web_text
  simp [webD] at e ⊢
  simp [l_webb, sm, a1, e]
theorem walkL_flat {ts : List T} (h : ts ≠ []) : (flat 62 ts).drop 1 = walkL ts := by
  unfold walkL
  rw [if_neg h]
  cases ts with
  | nil => exact absurd rfl h
  | cons t ts =>
    rw [List.map_cons, joinL_flat]
    simp [flat]
theorem law_walk_text_ok (ts : List T) (h : ∀ t ∈ ts, Small t) (hl : ts.length ≤ 60) : f_law_walk_text [rowsD ts] = .ok (.str (S (walkL ts))) [] := by
  unfold f_law_walk_text
  rw [runF1]
  unfold b_law_walk_text
  by_cases hz : ts = []
  · subst hz
    simp [rowsD, l_minus, walkL]
  · have hz' : ¬ (ts.length : Int) = 0 := fun e => hz (List.eq_nil_of_length_eq_zero (by omega))
    obtain ⟨y2, y3, y4, e⟩ := lw_loop (rowsD ts) 62 w1_law_walk_text (fun t l _ _ _ ht hl => ⟨.int t.1, .int t.2.1, .int t.2.2, by
      simp [w1_law_walk_text, l_blank, l_colon, l_more, ht.s1, ht.s2, ht.s3, q0 ht l hl, q1 ht l hl, q2 ht l hl, q3 ht l hl, q4 ht l hl, q5 ht l hl, rowsD]⟩) ts [] .dead .dead .dead h (by simp; omega)
    have fl := flat_len 62 ts h
    have st := sl_tail (flat 62 ts) (by omega)
    rw [walkL_flat hz] at st
    simp [rowsD] at e ⊢
    simp [l_empty, e, hz', hz, st]
theorem wt_loop (w : D) : ∀ (ts : List T) (ps : List (List Nat)) (x2 x3 x4 : D), w.own = false → (∀ t ∈ ts, Small t) → ps.length + ts.length ≤ 5000 → ∃ y2 y3 y4, loopF (.t [2, 3, 4]) w1_web_text (ts.map fun t => rowD (kt t)) [w, .lst true (ps.map fun p => D.str (S p)), x2, x3, x4] = .nx [w, .lst true ((ps ++ ts.map (piece 45)).map fun p => D.str (S p)), y2, y3, y4]
  | [], ps, x2, x3, x4, _, _, _ => ⟨x2, x3, x4, by simp [loopF]⟩
  | t :: ts, ps, x2, x3, x4, hw, h, hl => by
    have ht := h t List.mem_cons_self
    obtain ⟨z2, z3, z4, e2⟩ := wt_loop w ts (ps ++ [piece 45 t]) (.int t.1) (.int t.2.1) (.int t.2.2) hw (fun u m => h u (List.mem_cons_of_mem _ m)) (by simp at hl ⊢; omega)
    refine ⟨z2, z3, z4, ?_⟩
    have es : Tr.set (.t [2, 3, 4]) (rowD (kt t)) [w, .lst true (ps.map fun p => D.str (S p)), x2, x3, x4] = some [w, .lst true (ps.map fun p => D.str (S p)), .int t.1, .int t.2.1, .int t.2.2] := rfl
    have ap : mAppend (.lst true (ps.map fun p => D.str (S p))) [.str (S (piece 45 t))] = some (.non, .lst true ((ps ++ [piece 45 t]).map fun p => D.str (S p))) := by
      rw [app_ok' _ _ (by simp at hl ⊢; omega), List.map_append]
      rfl
    have eb : w1_web_text [w, .lst true (ps.map fun p => D.str (S p)), .int t.1, .int t.2.1, .int t.2.2] = .nx [w, .lst true ((ps ++ [piece 45 t]).map fun p => D.str (S p)), .int t.1, .int t.2.1, .int t.2.2] := by
      simp [w1_web_text, l_colon, l_minus, ht.s1, ht.s2, ht.s3, ht.p1, ht.p2, ht.p3, ht.p4, ap, -List.map_append]
    rw [List.map_cons]
    unfold loopF
    rw [es]
    simp only
    rw [eb]
    simp only
    rw [e2]
    simp
theorem sum_len (s : Nat) : ∀ ts : List T, (∀ t ∈ ts, Small t) → ((ts.map (piece s)).map List.length).sum ≤ 38 * ts.length
  | [], _ => by simp
  | t :: ts, h => by
    have h1 := sum_len s ts fun u m => h u (List.mem_cons_of_mem _ m)
    have h2 := piece_len s (h t List.mem_cons_self)
    simp at h1 ⊢
    omega
theorem frzL_strs {α : Type} (g : α → Str) (ps : List α) : frzL (ps.map fun p => D.str (g p)) = ps.map fun p => D.str (g p) := frzL_map _ (fun _ => rfl) ps
theorem ownL_strs {α : Type} (g : α → Str) (ps : List α) : ownL (ps.map fun p => D.str (g p)) = false := ownL_map _ (fun _ => rfl) ps
theorem web_text_ok (many : Int) (hm : many.natAbs < 10) (ts : List T) (h : ∀ t ∈ ts, Small t) (hl : ts.length ≤ 60) : f_web_text [webD many ts] = .ok (.str (S (webL many ts))) [] := by
  have sm : dStr [.int many] = some (.str (S (num many))) := str_i _ (Nat.lt_trans hm (by decide))
  have lm : (num many).length ≤ 2 := num_len (k := 1) (by decide) hm
  obtain ⟨y2, y3, y4, e⟩ := wt_loop (webD many ts) ts [[119, 101, 98], num many] .dead .dead .dead (by simp [webD]) h (by simp; omega)
  have hs := sum_len 45 ts h
  have jn := joinS [32] false ([119, 101, 98] :: num many :: ts.map (piece 45)) (by simp at hs ⊢; omega)
  have fz := frzL_strs S ([119, 101, 98] :: num many :: ts.map (piece 45))
  have ow := ownL_strs S ([119, 101, 98] :: num many :: ts.map (piece 45))
  unfold f_web_text
  rw [runF1]
  unfold b_web_text
  simp [webD] at e jn fz ow ⊢
  simp [l_web, l_blank, sm, lst_n, e, fz, ow, jn, webL]
theorem eq_tnil (ts : List T) : dEq [.tup (ts.map fun t => rowD (kt t)), .tup []] = some (.bl (decide (ts = []))) := by
  have h1 : ∀ (n : Nat) (ts : List T), okDL (ts.map fun t => rowD (kt t)) (n + 1) = true := fun n ts => by
    induction ts with
    | nil => rfl
    | cons t ts ih =>
      show ((rowD (kt t)).okD (n + 1) && okDL (ts.map fun t => rowD (kt t)) (n + 1)) = true
      rw [ih, okD_row]
      rfl
  show (if _ then _ else _) = _
  rw [if_pos (by
    show (okDL (ts.map fun t => rowD (kt t)) 59 && okDL [] 59) = true
    rw [h1 58]
    rfl)]
  cases ts with
  | nil => rfl
  | cons t ts =>
    show some (D.bl (PyData.eqv (.tuple ((rowD (kt t)).dat :: datL (ts.map fun t => rowD (kt t)))) (.tuple []))) = _
    simp [PyData.eqv, PyData.eqvAll]
theorem walk_text_ok (ts : List T) (h : ∀ t ∈ ts, Small t) (hl : ts.length ≤ 60) : f_walk_text [rowsD ts] = .ok (.str (S (walkL ts))) [] := by
  unfold f_walk_text
  rw [runF1]
  unfold b_walk_text
  by_cases hz : ts = []
  · subst hz
    have q := eq_tnil []
    simp at q
    simp [rowsD, l_minus, walkL, q, tup_n]
  · have q := eq_tnil ts
    have hs := sum_len 62 ts h
    have jn := joinS [32] true (ts.map (piece 62)) (by simp at hs ⊢; omega)
    have lc := lc_map (own := [1, 2, 3]) (tg := .t [1, 2, 3]) (elt := cApp dAdd [(cApp dAdd [(cApp dAdd [(cApp dAdd [(cApp dStr [(cVar 1)]), (cK (.str ":"))]), (cApp dStr [(cVar 2)])]), (cK (.str ">"))]), (cApp dStr [(cVar 3)])]) (env := [rowsD ts, .dead, .dead, .dead]) (fun t => rowD (kt t)) (fun t => D.str (S (piece 62 t))) ts fun t m => by
        have ht := h t m
        refine ⟨[rowsD ts, .int t.1, .int t.2.1, .int t.2.2], [rowsD ts, .int t.1, .int t.2.1, .int t.2.2], rfl, ?_, rfl⟩
        simp [l_colon, l_more, ht.s1, ht.s2, ht.s3, ht.p1, ht.p2, ht.p3, ht.p4]
    have hz' := szN' (show ts.length ≤ 1000000 by omega)
    simp only [List.map_map, Function.comp_def] at jn
    simp [rowsD, hz] at q lc ⊢
    simp [q, tup_n, lc, hz', l_blank, jn, walkL, hz]
end K87

namespace K87
open PySem L2 VL
/-! ### numbers read -/
theorem numL_head : ∀ (n : Nat), 0 < n → ∃ c l, TL.numL n = c :: l ∧ 49 ≤ c ∧ c ≤ 57 := by
  intro n
  induction n using Nat.strongRecOn with
  | _ n ih =>
    intro h
    by_cases h10 : n < 10
    · exact ⟨48 + n, [], TL.numL_lt h10, by omega, by omega⟩
    · obtain ⟨c, l, e, h1, h2⟩ := ih (n / 10) (by omega) (by omega)
      exact ⟨c, l ++ [48 + n % 10], by rw [TL.numL_step (by omega), e]; rfl, h1, h2⟩
theorem ixS0 (c : Nat) (l : List Nat) (h : (c :: l).length ≤ 1000000) : dIx [.str (S (c :: l)), .int 0] = some (.str (S [c])) := by
  show (if _ then _ else _) = _
  rw [lenS, if_pos (szN h), tlS, atI_0]
  rfl
theorem inDig (c : Nat) : dIn [.str (S [c]), .str (S [48, 49, 50, 51, 52, 53, 54, 55, 56, 57])] = some (.bl (decide (48 ≤ c ∧ c ≤ 57))) := by
  show some (D.bl (decide (c ∈ [48, 49, 50, 51, 52, 53, 54, 55, 56, 57]))) = _
  congr 2
  simp only [List.mem_cons, List.not_mem_nil, or_false, decide_eq_decide]
  omega
theorem digOk {l : List Nat} (h : NumText.AllDigits l) : ∀ c ∈ l, c < 1114112 := fun c hc => by have := h c hc; omega
theorem lc_sign (l : List Nat) (w : D) : lcG [1] (.n 1) cTrue (cApp dIn [(cVar 1), (cK (.str "0123456789"))]) (chars (S l)) [w, .dead] = .ok (l.map fun c => D.bl (decide (48 ≤ c ∧ c ≤ 57))) [w, .dead] :=
  lc_map (fun c => D.str (S [c])) (fun c => D.bl (decide (48 ≤ c ∧ c ≤ 57))) l fun c _ => ⟨[w, .str (S [c])], [w, .str (S [c])], rfl, by simp [l_digits, inDig], rfl⟩
theorem read_count_digits (c : Nat) (r : List Nat) (dg : NumText.AllDigits (c :: r)) (hl : (c :: r).length ≤ 30) (h0 : c = 48 → r = []) (v : D) (it : dToInt [.str (S (c :: r))] = some v) : f_read_count [.str (S (c :: r))] = .ok v [] := by
  have e1 := eqS (c :: r) [] (digOk dg) (by simp)
  have ln : dLen [.str (S (c :: r))] = some (.int ((c :: r).length : Nat)) := by rw [len_s _ (by rw [lenS]; omega), lenS]
  have lc := lc_sign (c :: r) (.str (S (c :: r)))
  have al := all_map true (fun c => decide (48 ≤ c ∧ c ≤ 57)) (c :: r)
  have al2 : (c :: r).all (fun c => decide (48 ≤ c ∧ c ≤ 57)) = true := List.all_eq_true.mpr fun c hc => decide_eq_true (dg c hc)
  rw [al2] at al
  have hz := szN' (show (chars (S (c :: r))).length ≤ 1000000 by rw [charsS, List.length_map]; omega)
  have i0 := ixS0 c r (by omega)
  have e3 := eqS [c] [48] (by simp; have := dg c List.mem_cons_self; omega) (by simp)
  have e4 := neS (c :: r) [48] (digOk dg) (by simp)
  have hlen : ¬ (30 : Int) < (r.length : Int) + 1 := by simp at hl; omega
  unfold f_read_count
  rw [runF1]
  unfold b_read_count
  by_cases hc : c = 48
  · have hr := h0 hc
    subst hc hr
    simp at e1 e3 e4 al ln
    simp [l_empty, e1, ln, hz, lc, al, l_zero, i0, e3, e4, it]
  · simp [hc] at e1 e3 e4 al ln
    simp [l_empty, e1, ln, hz, lc, al, l_zero, i0, e3, e4, it, hlen]
theorem read_count_num (n : Nat) (h : n < 10 ^ 30) : f_read_count [.str (S (TL.numL n))] = .ok (.int n) [] := by
  have dg := TL.numL_digits n
  have hl := TL.numL_len (k := 30) (by decide) h
  have it := int_numL (n := n) (by omega)
  by_cases h0 : n = 0
  · subst h0
    have z : TL.numL 0 = [48] := TL.numL_lt (by decide)
    rw [z] at dg hl it ⊢
    exact read_count_digits 48 [] dg hl (fun _ => rfl) _ it
  · obtain ⟨c, l, e, c1, c2⟩ := numL_head n (by omega)
    rw [e] at dg hl it ⊢
    exact read_count_digits c l dg hl (fun z => by omega) _ it
theorem read_count_int (i : Int) (h0 : 0 ≤ i) (h : i.natAbs < 10 ^ 30) : f_read_count [.str (S (num i))] = .ok (.int i) [] := by
  rw [num_nat h0, read_count_num _ h]
  congr 2
  omega
theorem read_moment_int (i : Int) (h : i.natAbs < 10 ^ 30) : f_read_moment [.str (S (num i))] = .ok (.int i) [] := by
  have hl : (num i).length ≤ 31 := num_len (k := 30) (by decide) h
  have sh := sl_head (num i) (by omega)
  have st := sl_tail (num i) (by omega)
  have ne := neS ((num i).take 1) [45] (fun c hc => numOk c (List.mem_of_mem_take hc)) (by simp)
  unfold f_read_moment
  rw [runF1]
  unfold b_read_moment
  by_cases h0 : 0 ≤ i
  · have rc := read_count_int i h0 h
    have e : ¬ (num i).take 1 = [45] := fun e => by
      have hm : 45 ∈ num i := List.mem_of_mem_take (by rw [e]; exact List.mem_cons_self)
      rw [num_nat h0] at hm
      have := TL.numL_digits _ 45 hm
      omega
    simp [e] at ne
    simp [sh, ne, l_minus, rc]
  · have e : num i = 45 :: TL.numL i.natAbs := num_neg (by omega)
    have rc := read_count_num i.natAbs h
    rw [e] at sh st ne ⊢
    simp at sh st ne
    have hz : ¬ i = 0 := by omega
    simp [sh, st, ne, l_minus, rc, dIs, hz]
    omega
/-! ### a piece read -/
theorem slT3 (x y z : Int) : dSlB (.tup [.int x, .int y, .int z]) (some 1) none = some (.tup [.int y, .int z]) := by rfl
theorem maxT2 (y z : Int) : dMaxL [.tup [.int y, .int z]] = some (.int (max y z)) := by rfl
theorem inN3 (x y z : Int) : dIn [.non, .tup [.int x, .int y, .int z]] = some (.bl false) := by
  simp [dIn, dInB, D.okD, okDL, deq, D.dat, PyData.eqv]
theorem read_triple_ok (s : Nat) (hs : s = 45 ∨ s = 62) (t : T) (h : t.1.natAbs < 10 ^ 30) (ha : 0 ≤ t.2.1) (ha7 : t.2.1 < 7) (hb : 0 ≤ t.2.2) (hb7 : t.2.2 < 7) (ne : t.2.1 ≠ t.2.2) : f_read_triple [.str (S (piece s t)), .str (S [s])] = .ok (rowD (kt t)) [] := by
  have sm : Small t := ⟨Nat.lt_trans h (by decide), by omega, by omega⟩
  have l1 := sm.l1
  have l2 := sm.l2
  have l3 := sm.l3
  have p1 := partS 58 (num t.1) (num t.2.1 ++ s :: num t.2.2) (num_free (by decide)) (by simp; omega)
  have p2 := partS s (num t.2.1) (num t.2.2) (by rw [num_nat ha]; exact TL.numL_free (by omega)) (by omega)
  have r1 := read_moment_int t.1 h
  have r2 := read_count_int t.2.1 ha (by omega)
  have r3 := read_count_int t.2.2 hb (by omega)
  have hm : ¬ (7 : Int) ≤ max t.2.1 t.2.2 := by omega
  unfold f_read_triple
  rw [runF2]
  unfold b_read_triple
  simp [l_colon, piece, p1, p2, r1, r2, r3, tup_n, inN3, slT3, maxT2, hm, ne]
  rfl
end K87

namespace K87
open PySem L2 VL
theorem ixlast {α : Type} (xs : List α) (x : α) : (xs ++ [x]).getLast? = some x := by simp
theorem eq_lnil (o : Bool) (ts : List T) : dEq [.lst o (ts.map fun t => rowD (kt t)), .lst true []] = some (.bl (decide (ts = []))) := by
  have h1 : ∀ (n : Nat) (ts : List T), okDL (ts.map fun t => rowD (kt t)) (n + 1) = true := fun n ts => by
    induction ts with
    | nil => rfl
    | cons t ts ih =>
      show ((rowD (kt t)).okD (n + 1) && okDL (ts.map fun t => rowD (kt t)) (n + 1)) = true
      rw [ih, okD_row]
      rfl
  show (if _ then _ else _) = _
  rw [if_pos (by
    show (okDL (ts.map fun t => rowD (kt t)) 59 && okDL [] 59) = true
    rw [h1 58]
    rfl)]
  cases ts with
  | nil => rfl
  | cons t ts =>
    show some (D.bl (PyData.eqv (.list ((rowD (kt t)).dat :: datL (ts.map fun t => rowD (kt t)))) (.list []))) = _
    simp [PyData.eqv, PyData.eqvAll]
theorem ch_lele (a b c : Int) (fa fb fc : CE) (env : List D) (h1 : fa env = .ok (.int a) env) (h2 : fb env = .ok (.int b) env) (h3 : fc env = .ok (.int c) env) : cChain dLe dLe fa fb fc env = .ok (.bl (decide (a ≤ b) && decide (b ≤ c))) env := by
  unfold cChain
  simp only [h1, h2, RE.bind_ok, le_ii]
  by_cases h : a ≤ b
  · simp [h, h3]
  · simp [h]
theorem ch_ltlt (a b c : Int) (fa fb fc : CE) (env : List D) (h1 : fa env = .ok (.int a) env) (h2 : fb env = .ok (.int b) env) (h3 : fc env = .ok (.int c) env) : cChain dLt dLt fa fb fc env = .ok (.bl (decide (a < b) && decide (b < c))) env := by
  unfold cChain
  simp only [h1, h2, RE.bind_ok, lt_ii]
  by_cases h : a < b
  · simp [h, h3]
  · simp [h]
theorem isR (r : List Int) : dIs [rowD r, .non] = some (.bl false) := rfl
theorem oVr (r : List Int) (e : List D) : oV (some (rowD r)) e = .ok (rowD r) e := oV_some _ _ (own_row r) rfl
theorem ixr0 (t : T) : dIx [rowD (kt t), .int 0] = some (.int t.1) := by rfl
theorem ixr1 (t : T) : dIx [rowD (kt t), .int 1] = some (.int t.2.1) := by rfl
theorem ixr2 (t : T) : dIx [rowD (kt t), .int 2] = some (.int t.2.2) := by rfl
theorem can_meet_ok (many : Int) (ts : List T) (t : T) (h : MeetOk many t) (hl : ts.length < 24) (hu : ∀ s, ts.getLast? = some s → kt s < kt t) : f_can_meet [.lst false (ts.map fun t => rowD (kt t)), rowD (kt t), .int many] = .ok (.bl true) [] := by
  have c1 := ch_lele (-1000000000) t.1 1000000000 (cApp dSub [(cK (.int 0)), (cK (.int (1000000000)))]) (cApp dIx [(cVar 1), (cK (.int 0))]) (cK (.int (1000000000))) [.lst false (ts.map fun t => rowD (kt t)), rowD (kt t), .int many] (by simp) (by simp [oVr, ixr0]) (by simp)
  have c2 := ch_ltlt t.2.1 t.2.2 many (cApp dIx [(cVar 1), (cK (.int 1))]) (cApp dIx [(cVar 1), (cK (.int 2))]) (cVar 2) [.lst false (ts.map fun t => rowD (kt t)), rowD (kt t), .int many] (by simp [oVr, ixr1]) (by simp [oVr, ixr2]) (by simp)
  have e1 := eq_lnil false ts
  have m1 := h.m1
  have m2 := h.m2
  have ab := h.ab
  have bm := h.b
  unfold f_can_meet
  rw [runF3]
  unfold b_can_meet
  by_cases hz : ts = []
  · subst hz
    simp at c1 c2 e1
    simp [oVr, isR, c1, c2, m1, m2, ab, bm, e1]
  · obtain ⟨s, hs⟩ : ∃ s, ts.getLast? = some s := by
      cases e : ts.getLast? with
      | none => exact absurd (List.getLast?_eq_none_iff.mp e) hz
      | some s => exact ⟨s, rfl⟩
    have lt := lt_rows (kt s) (kt t)
    have hlt := hu s hs
    simp [hlt] at lt
    simp [hz] at e1
    simp [oVr, isR, c1, c2, m1, m2, ab, bm, e1, show (ts.length : Int) < 24 by omega, hs, lt]
/-! ### a web read -/
theorem slL2 (o : Bool) (x y : List Nat) (ps : List (List Nat)) : dSlB (.lst o ((x :: y :: ps).map fun p => D.str (S p))) (some 2) none = some (.lst true (ps.map fun p => D.str (S p))) := by
  show (if _ then _ else _) = _
  rw [ownL_strs S]
  show some (D.lst true (dCut _ _ _)) = _
  congr 2
  unfold dCut
  have h1 : HT.sIx ((x :: y :: ps).map fun p => D.str (S p)).length 0 (some 2) = 2 := by
    simp [HT.sIx]
  have h2 : HT.sIx ((x :: y :: ps).map fun p => D.str (S p)).length ((x :: y :: ps).map fun p => D.str (S p)).length none = ps.length + 2 := by
    show ((x :: y :: ps).map fun p => D.str (S p)).length = _
    simp
  rw [h1, h2]
  simp
  exact List.take_of_length_le (by simp)
theorem WebOk.small {many : Int} {ts : List T} (h : WebOk many ts) : ∀ t ∈ ts, Small t := fun t m => by
  have k := h.ok t m
  have := k.m1; have := k.m2; have := k.a; have := k.ab; have := k.b; have := h.m7
  exact ⟨by omega, by omega, by omega⟩
theorem pre_last {R : T → T → Prop} {pre : List T} {t : T} {ts : List T} (h : (pre ++ t :: ts).Pairwise R) : ∀ s, pre.getLast? = some s → R s t := fun s hs => by
  have m : s ∈ pre := List.mem_of_getLast? hs
  exact (List.pairwise_append.mp h).2.2 s m t List.mem_cons_self
theorem rw_loop (many : Int) (w pcs : D) (hw : w.own = false) : ∀ (ts pre : List T) (n : Nat) (x4 x5 x6 : D), WebOk many (pre ++ ts) → pcs.own = false → ∃ y4 y5 y6, loopF (.t [4, 5]) w1_read_web (numb n (ts.map fun t => D.str (S (piece 45 t)))) [w, pcs, .int many, .lst true (pre.map fun t => rowD (kt t)), x4, x5, x6] = .nx [w, pcs, .int many, .lst true ((pre ++ ts).map fun t => rowD (kt t)), y4, y5, y6]
  | [], pre, n, x4, x5, x6, _, _ => ⟨x4, x5, x6, by simp [numb, loopF]⟩
  | t :: ts, pre, n, x4, x5, x6, h, hp => by
    have k := h.ok t (by simp)
    have hl := h.len
    have hm7 := h.m7
    have := k.m1; have := k.m2; have := k.a; have := k.ab; have := k.b
    have rt := read_triple_ok 45 (.inl rfl) t (by omega) k.a (by omega) (by omega) (by omega) (by omega)
    have cm := can_meet_ok many pre t k (by simp at hl; omega) (pre_last h.up)
    have ap : mAppend (.lst true (pre.map fun t => rowD (kt t))) [rowD (kt t)] = some (.non, .lst true ((pre ++ [t]).map fun t => rowD (kt t))) := by
      rw [app_ok' _ _ (by simp at hl ⊢; omega), List.map_append]
      rfl
    have m1 : mrg1 false w w = w := mrg1_same _ hw
    have m2 : mrg1 false pcs pcs = pcs := mrg1_same _ hp
    have m3 : mrg1 false (rowD (kt t)) (rowD (kt t)) = rowD (kt t) := mrg1_same _ (own_row _)
    have eb : w1_read_web [w, pcs, .int many, .lst true (pre.map fun t => rowD (kt t)), .int n, .str (S (piece 45 t)), x6] = .nx [w, pcs, .int many, .lst true ((pre ++ [t]).map fun t => rowD (kt t)), .int n, .str (S (piece 45 t)), rowD (kt t)] := by
      simp [w1_read_web, l_minus, rt, cm, oVr, ap, m1, m2, m3, -List.map_append]
    obtain ⟨y4, y5, y6, e⟩ := rw_loop many w pcs hw ts (pre ++ [t]) (n + 1) (.int n) (.str (S (piece 45 t))) (rowD (kt t)) (by simpa using h) hp
    refine ⟨y4, y5, y6, ?_⟩
    rw [List.map_cons]
    unfold numb loopF
    have es : Tr.set (.t [4, 5]) (.tup [.int n, .str (S (piece 45 t))]) [w, pcs, .int many, .lst true (pre.map fun t => rowD (kt t)), x4, x5, x6] = some [w, pcs, .int many, .lst true (pre.map fun t => rowD (kt t)), .int n, .str (S (piece 45 t)), x6] := rfl
    rw [es]
    simp only
    rw [eb]
    simp only
    rw [e]
    simp
theorem piece_free (s : Nat) (hs : s = 45 ∨ s = 62) (t : T) : 32 ∉ piece s t := by
  have h1 := num_free (i := t.1) (s := 32) (by decide)
  have h2 := num_free (i := t.2.1) (s := 32) (by decide)
  have h3 := num_free (i := t.2.2) (s := 32) (by decide)
  simp [piece, h1, h2, h3]
  omega
theorem look_ok (z : Str) : f_look_at_text [.str z] = .ok .non [] := by
  unfold f_look_at_text
  rw [runF1]
  unfold b_look_at_text
  simp [kIsa, D.tg, Tg.typed, Tg.isa]
theorem read_web_ok (many : Int) (ts : List T) (h : WebOk many ts) : f_read_web [.str (S (webL many ts))] = .ok (webD many ts) [] := by
  have m1 := h.m1
  have m7 := h.m7
  have hl := h.len
  have lk := look_ok (S (webL many ts))
  have fl := flat_len 45 ts h.small
  have lm : (num many).length ≤ 2 := num_len (k := 1) (by decide) (by omega)
  have sp := splitS 32 (by decide) ([119, 101, 98] :: num many :: ts.map (piece 45)) (by simp) (fun p hp => by
    rcases List.mem_cons.mp hp with rfl | hp
    · decide
    · rcases List.mem_cons.mp hp with rfl | hp
      · exact num_free (by decide)
      · obtain ⟨t, _, rfl⟩ := List.mem_map.mp hp
        exact piece_free 45 (.inl rfl) t) (by
    have := webL_eq many ts
    unfold webL at this
    rw [this]
    simp
    omega)
  have fz := frzL_strs S ([119, 101, 98] :: num many :: ts.map (piece 45))
  have ow := ownL_strs S ([119, 101, 98] :: num many :: ts.map (piece 45))
  have sl := slL2 false [119, 101, 98] (num many) (ts.map (piece 45))
  have ne := neS [119, 101, 98] [119, 101, 98] (by simp) (by simp)
  have rc := read_count_int many (by omega) (by omega)
  have cat := add_ll false true (([119, 101, 98] :: num many :: ts.map (piece 45)).map fun p => D.str (S p)) [.str (S [])] (szN (by simp; omega))
  obtain ⟨y4, y5, y6, lp⟩ := rw_loop many (.str (S (webL many ts))) (.lst false (([119, 101, 98] :: num many :: ts.map (piece 45)).map fun p => D.str (S p))) rfl ts [] 0 .dead .dead .dead (by simpa using h) (by show (false || _) = false; rw [ow]; rfl)
  have ch := ch_lele 1 many 7 (cK (.int 1)) (cVar 2) (cK (.int 7)) [.str (S (webL many ts)), .lst false (([119, 101, 98] :: num many :: ts.map (piece 45)).map fun p => D.str (S p)), .int many, .dead, .dead, .dead, .dead] (by simp) (by simp) (by simp)
  simp only [List.map_map, Function.comp_def, List.map_cons] at sp fz ow sl cat lp ch
  have sp' : dSplit (.str (S (webL many ts))) [.str (S [32])] = _ := sp
  simp at ne
  unfold f_read_web
  rw [runF1]
  unfold b_read_web
  simp [m1, m7] at lp ch
  simp at fz ow sl cat
  simp [lk, l_blank, sp', fz, ow, sl, l_web, ne, l_empty, lst_n, cat, rc, dIs, ch, gEnum, lp, toTup_l, tup_n, webD]
end K87

namespace K87
open PySem L2 VL
theorem can_follow_ok (ts : List T) (t : T) (hu : ∀ s, ts.getLast? = some s → s.2.2 = t.2.1 ∧ s.1 ≤ t.1) : f_can_follow [.lst false (ts.map fun t => rowD (kt t)), rowD (kt t)] = .ok (.bl true) [] := by
  have e1 := eq_lnil false ts
  unfold f_can_follow
  rw [runF2]
  unfold b_can_follow
  by_cases hz : ts = []
  · subst hz
    simp at e1
    simp [oVr, isR, e1]
  · obtain ⟨s, hs⟩ : ∃ s, ts.getLast? = some s := by
      cases e : ts.getLast? with
      | none => exact absurd (List.getLast?_eq_none_iff.mp e) hz
      | some s => exact ⟨s, rfl⟩
    obtain ⟨h1, h2⟩ := hu s hs
    simp [hz] at e1
    simp [oVr, isR, e1, hs, ixr0, ixr1, ixr2, h1, h2]
theorem StepOk.small {t : T} (h : StepOk t) : Small t := by
  have := h.m1; have := h.m2; have := h.a; have := h.a7; have := h.b; have := h.b7
  exact ⟨by omega, by omega, by omega⟩
theorem fol_last {pre : List T} {t : T} {ts : List T} (h : Fol (pre ++ t :: ts)) : ∀ s, pre.getLast? = some s → s.2.2 = t.2.1 ∧ s.1 ≤ t.1 := fun s hs => by
  have hp : 0 < pre.length := by
    cases pre with
    | nil => simp at hs
    | cons => simp
  refine h (pre.length - 1) s t ?_ ?_
  · rw [List.getElem?_append_left (by omega), ← List.getLast?_eq_getElem?]
    exact hs
  · rw [List.getElem?_append_right (by omega)]
    rw [show pre.length - 1 + 1 - pre.length = 0 by omega]
    rfl
theorem rk_loop (w pcs : D) (hw : w.own = false) (hp : pcs.own = false) : ∀ (ts pre : List T) (n : Nat) (x3 x4 x5 : D), WalkOk (pre ++ ts) → ∃ y3 y4 y5, loopF (.t [3, 4]) w1_read_walk (numb n (ts.map fun t => D.str (S (piece 62 t)))) [w, pcs, .lst true (pre.map fun t => rowD (kt t)), x3, x4, x5] = .nx [w, pcs, .lst true ((pre ++ ts).map fun t => rowD (kt t)), y3, y4, y5]
  | [], pre, n, x3, x4, x5, _ => ⟨x3, x4, x5, by simp [numb, loopF]⟩
  | t :: ts, pre, n, x3, x4, x5, h => by
    have k := h.ok t (by simp)
    have hl := h.len
    have := k.m1; have := k.m2
    have rt := read_triple_ok 62 (.inr rfl) t (by omega) k.a k.a7 k.b k.b7 k.ne
    have cm := can_follow_ok pre t (fol_last h.fol)
    have ap : mAppend (.lst true (pre.map fun t => rowD (kt t))) [rowD (kt t)] = some (.non, .lst true ((pre ++ [t]).map fun t => rowD (kt t))) := by
      rw [app_ok' _ _ (by simp at hl ⊢; omega), List.map_append]
      rfl
    have m1 : mrg1 false w w = w := mrg1_same _ hw
    have m2 : mrg1 false pcs pcs = pcs := mrg1_same _ hp
    have m3 : mrg1 false (rowD (kt t)) (rowD (kt t)) = rowD (kt t) := mrg1_same _ (own_row _)
    have eb : w1_read_walk [w, pcs, .lst true (pre.map fun t => rowD (kt t)), .int n, .str (S (piece 62 t)), x5] = .nx [w, pcs, .lst true ((pre ++ [t]).map fun t => rowD (kt t)), .int n, .str (S (piece 62 t)), rowD (kt t)] := by
      simp [w1_read_walk, l_more, rt, cm, oVr, ap, m1, m2, m3, -List.map_append]
    obtain ⟨y3, y4, y5, e⟩ := rk_loop w pcs hw hp ts (pre ++ [t]) (n + 1) (.int n) (.str (S (piece 62 t))) (rowD (kt t)) (by simpa using h)
    refine ⟨y3, y4, y5, ?_⟩
    rw [List.map_cons]
    unfold numb loopF
    have es : Tr.set (.t [3, 4]) (.tup [.int n, .str (S (piece 62 t))]) [w, pcs, .lst true (pre.map fun t => rowD (kt t)), x3, x4, x5] = some [w, pcs, .lst true (pre.map fun t => rowD (kt t)), .int n, .str (S (piece 62 t)), x5] := rfl
    rw [es]
    simp only
    rw [eb]
    simp only
    rw [e]
    simp
theorem pieceOk (s : Nat) (hs : s < 1114112) (t : T) : ∀ c ∈ piece s t, c < 1114112 := fun c hc => by
  simp only [piece, List.mem_append, List.mem_cons] at hc
  rcases hc with h | rfl | h | rfl | h
  · exact numOk c h
  · omega
  · exact numOk c h
  · exact hs
  · exact numOk c h
theorem flatOk (s : Nat) (hs : s < 1114112) (ts : List T) : ∀ c ∈ flat s ts, c < 1114112 := fun c hc => by
  simp only [flat, List.mem_flatten, List.mem_map] at hc
  obtain ⟨l, ⟨t, _, rfl⟩, hc⟩ := hc
  rcases List.mem_cons.mp hc with rfl | hc
  · omega
  · exact pieceOk s hs t c hc
theorem walkOk {ts : List T} : ∀ c ∈ walkL ts, c < 1114112 := fun c hc => by
  by_cases h : ts = []
  · subst h
    simp [walkL] at hc
    omega
  · rw [← walkL_flat h] at hc
    exact flatOk 62 (by omega) ts c (List.mem_of_mem_drop hc)
theorem read_walk_ok (ts : List T) (h : WalkOk ts) : f_read_walk [.str (S (walkL ts))] = .ok (rowsD ts) [] := by
  have lk := look_ok (S (walkL ts))
  have eq1 := eqS (walkL ts) [45] walkOk (by simp)
  unfold f_read_walk
  rw [runF1]
  unfold b_read_walk
  by_cases hz : ts = []
  · subst hz
    simp [walkL] at lk eq1
    simp [walkL, lk, l_minus, eq1, tup_n, rowsD]
  · obtain ⟨t, r, rfl⟩ : ∃ t r, ts = t :: r := by
      cases ts with
      | nil => exact absurd rfl hz
      | cons t r => exact ⟨t, r, rfl⟩
    have hl := h.len
    have sm : ∀ u ∈ t :: r, Small u := fun u m => (h.ok u m).small
    have fl := flat_len 62 (t :: r) sm
    have wl : walkL (t :: r) = TL.joinL [32] ((t :: r).map (piece 62)) := by simp [walkL]
    have n1 : ¬ walkL (t :: r) = [45] := fun e => by
      have m : 58 ∈ walkL (t :: r) := by
        rw [wl, List.map_cons, joinL_flat]
        simp [piece]
      rw [e] at m
      simp at m
    have n2 : ¬ piece 62 t = [45] := fun e => by
      have m : 58 ∈ piece 62 t := by simp [piece]
      rw [e] at m
      simp at m
    have sp := splitS 32 (by decide) ((t :: r).map (piece 62)) (by simp) (fun p hp => by
      obtain ⟨t, _, rfl⟩ := List.mem_map.mp hp
      exact piece_free 62 (.inr rfl) t) (by rw [← wl, ← walkL_flat hz]; simp at fl hl ⊢; omega)
    have fz := frzL_strs S ((t :: r).map (piece 62))
    have ow := ownL_strs S ((t :: r).map (piece 62))
    have eq2 := eqS (piece 62 t) [45] (pieceOk 62 (by omega) t) (by simp)
    obtain ⟨y3, y4, y5, lp⟩ := rk_loop (.str (S (walkL (t :: r)))) (.lst false (((t :: r).map (piece 62)).map fun p => D.str (S p))) rfl (by show (false || _) = false; rw [ow]; rfl) (t :: r) [] 0 .dead .dead .dead (by simpa using h)
    rw [← wl] at sp
    simp only [List.map_map, Function.comp_def] at sp fz ow lp
    simp [n1] at eq1
    simp [n2] at eq2
    simp at sp fz ow lp
    simp [lk, l_minus, l_blank, eq1, eq2, sp, fz, ow, gEnum, lp, toTup_l, rowsD]
/-! ### the same -/
theorem eq_self (d : D) (h : d.okD 60 = true) (e : deq d d = true) : dEq [d, d] = some (.bl true) := by
  show (if _ then _ else _) = _
  rw [if_pos (by rw [h]; rfl), e]
theorem same_int (n : Nat) (i : Int) : fr_law_same (n + 1) [.int i, .int i] = .ok (.bl true) [] := by
  unfold fr_law_same
  rw [runF2]
  unfold b_law_same
  simp [dIs, kIsa, D.tg, Tg.typed, Tg.isa]
theorem same_tup (n : Nat) (xs : List D) (hl : xs.length ≤ 1000) (ho : ownL xs = false) (hf : frzL xs = xs) (h : ∀ x ∈ xs, x.own = false ∧ x.isDead = false ∧ fr_law_same n [x, x] = .ok (.bl true) []) : fr_law_same (n + 1) [.tup xs, .tup xs] = .ok (.bl true) [] := by
  have ez : ∀ xs : List D, pair2 xs xs = xs.map fun x => .tup [x, x] := fun xs => by
    induction xs with
    | nil => rfl
    | cons x xs ih => simp [pair2, ih]
  have gz : gZip [.tup xs, .tup xs] = some (xs.map fun x => .tup [x, x]) := by
    show some (pair2 (frzL xs) (frzL xs)) = _
    rw [hf, ez]
  have lc := lc_map (own := [2, 3]) (tg := .t [2, 3]) (elt := cCall [] (fr_law_same n) [.inl (cVar 2), .inl (cVar 3)]) (env := [.tup xs, .tup xs, .dead, .dead]) (fun x => .tup [x, x]) (fun _ => D.bl true) xs fun x m => by
    obtain ⟨h1, h2, h3⟩ := h x m
    refine ⟨[.tup xs, .tup xs, x, x], [.tup xs, .tup xs, x, x], rfl, ?_, rfl⟩
    simp [oV_some x _ h1 h2, h3]
  have al := all_map true (fun _ => true) xs
  have hz := szN' (show xs.length ≤ 1000000 by omega)
  have tt : (xs.all fun _ => true) = true := by simp
  rw [tt] at al
  unfold fr_law_same
  rw [runF2]
  unfold b_law_same
  have be : ∀ a : Bool, dNe [.bl a, .bl a] = some (.bl false) := fun a => by cases a <;> rfl
  simp [ho, dIs, kIsa, D.tg, Tg.typed, Tg.isa, be, gz, lc, hz, al]
theorem same_row (n : Nat) (r : List Int) (hl : r.length ≤ 1000) : fr_law_same (n + 2) [rowD r, rowD r] = .ok (.bl true) [] :=
  same_tup (n + 1) _ (by simpa using hl) (ownL_ints r) (frzL_ints r) fun x m => by
    obtain ⟨i, _, rfl⟩ := List.mem_map.mp m
    exact ⟨rfl, rfl, same_int n i⟩
theorem same_rows (n : Nat) (ts : List T) (hl : ts.length ≤ 1000) : fr_law_same (n + 3) [rowsD ts, rowsD ts] = .ok (.bl true) [] :=
  same_tup (n + 2) _ (by simpa using hl) (ownL_rows kt ts) (frzL_rows kt ts) fun x m => by
    obtain ⟨i, _, rfl⟩ := List.mem_map.mp m
    exact ⟨own_row _, rfl, same_row n _ (by simp [kt])⟩
theorem same_web (n : Nat) (many : Int) (ts : List T) (hl : ts.length ≤ 1000) : fr_law_same (n + 4) [webD many ts, webD many ts] = .ok (.bl true) [] :=
  same_tup (n + 3) _ (by simp) (by simp) (by simp) fun x m => by
    simp at m
    rcases m with rfl | rfl
    · exact ⟨rfl, rfl, same_int (n + 2) many⟩
    · exact ⟨by simp, rfl, same_rows n ts hl⟩
end K87

set_option maxRecDepth 100000
namespace K87
open PySem L2 VL
theorem cut_map {α : Type} (f : α → D) (cs : List α) (lo hi : Option Int) : ∃ ds : List α, dCut (cs.map f) lo hi = ds.map f ∧ ∀ d ∈ ds, d ∈ cs := by
  refine ⟨(cs.drop (HT.sIx (cs.map f).length 0 lo)).take (HT.sIx (cs.map f).length (cs.map f).length hi - HT.sIx (cs.map f).length 0 lo), ?_, fun d m => List.mem_of_mem_drop (List.mem_of_mem_take m)⟩
  unfold dCut
  rw [List.map_take, List.map_drop]
theorem rep_mul (most : Int) (h0 : 0 < most) (h1 : most ≤ 1000) : dMul [.lst true [.int 0], .int most] = some (.lst true ((List.replicate most.toNat (0 : Int)).map .int)) := by
  have e : ∀ n : Nat, (List.replicate n [D.int 0]).flatten = (List.replicate n (0 : Int)).map .int := fun n => by
    induction n with
    | zero => rfl
    | succ n ih => rw [List.replicate_succ, List.flatten_cons, ih]; rfl
  have c : ownL [D.int 0] = false ∧ -(2 ^ 63) ≤ most ∧ most < 2 ^ 63 ∧ [D.int 0].length * most.toNat ≤ sizeLine := ⟨rfl, by omega, by omega, by rw [szL]; simp; omega⟩
  show (if _ then _ else _) = _
  rw [if_pos c, e]
theorem fold_body (ns : List Int) (most : Int) (h0 : 0 < most) (h1 : most ≤ 1000) (cs : List Int) (x3 : D) (hl : cs.length = most.toNat) (i : Nat) (hi : i < ns.length) : ∃ cs' : List Int, w1_law_folded [.lst false (ns.map .int), .int most, .lst true (cs.map .int), .int i] = .nx [.lst false (ns.map .int), .int most, .lst true (cs'.map .int), .int i] ∧ cs'.length = most.toNat := by
    have m0 : 0 ≤ (i : Int) % most := Int.emod_nonneg _ (by omega)
    have m1 : (i : Int) % most < most := Int.emod_lt_of_pos _ h0
    generalize hk : (i : Int) % most = k at m0 m1
    have hk2 : k.toNat < cs.length := by omega
    have g1 : atI (cs.map D.int) k = some (.int cs[k.toNat]) := by
      rw [atI_get' _ _ m0]
      simp [hk2]
    have g2 : atI (ns.map D.int) (i : Int) = some (.int ns[i]) := by
      rw [atI_nat']
      simp [hi]
    have st := setL_ok (cs.map D.int) k (.int (cs[k.toNat] * 1000003 + ns[i])) (ownL_ints cs) rfl m0 (by simp; omega)
    have em : (cs.map D.int).set k.toNat (.int (cs[k.toNat] * 1000003 + ns[i])) = (cs.set k.toNat (cs[k.toNat] * 1000003 + ns[i])).map D.int := by rw [List.map_set]
    rw [em] at st
    refine ⟨cs.set k.toNat (cs[k.toNat] * 1000003 + ns[i]), ?_, by simp [hl]⟩
    simp [w1_law_folded, mod_p, h0, hk, g1, g2, mul_r, st, -List.map_set]
theorem p1 (ns : List Int) (most : Int) (l : List D) (rep : dMul [.lst true [.int 0], .int most] = some (.lst true l)) : sAsg 2 (cApp dMul [(cApp dLst [(cK (.int 0))]), (cVar 1)]) [.lst false (ns.map .int), .int most, .dead, .dead] = .nx [.lst false (ns.map .int), .int most, .lst true l, .dead] := by
  simp [lst_n, rep]
theorem p2a (ns : List Int) (most : Int) (l : List D) : evA [(cApp dLen [(cVar 0)])] [.lst false (ns.map .int), .int most, .lst true l, .dead] = .ok [.int ns.length] [.lst false (ns.map .int), .int most, .lst true l, .dead] := by
  simp
theorem p2 (ns cs : List Int) (most : Int) (l : List D) (x3 : D) (r1 : gRange1 [.int ns.length] = some ((List.range ns.length).map fun (i : Nat) => D.int i)) (lp : loopF (.n 3) w1_law_folded ((List.range ns.length).map fun (i : Nat) => D.int i) [.lst false (ns.map .int), .int most, .lst true l, .dead] = .nx [.lst false (ns.map .int), .int most, .lst true (cs.map .int), x3]) : sFor (.n 3) (iOf gRange1 [(cApp dLen [(cVar 0)])]) w1_law_folded [.lst false (ns.map .int), .int most, .lst true l, .dead] = .nx [.lst false (ns.map .int), .int most, .lst true (cs.map .int), x3] := by
  rw [ev_for, ev_iof, p2a, RA.bindA_ok, kIof_eq, r1, oI_some, RA.bindS_ok, kFor_eq, lp]
theorem p3 (ns cs ds : List Int) (most : Int) (x3 : D) (sl : dSlB (.lst false (cs.map D.int)) none (some (max 1 (min (ns.length : Int) most))) = some (.lst true (ds.map D.int))) : sRet (cSl (cFreeze [2] (cVar 2)) none (some (cApp dMax [(cK (.int 1)), (cApp dMin [(cApp dLen [(cVar 0)]), (cVar 1)])]))) [.lst false (ns.map .int), .int most, .lst true (cs.map .int), x3] = .rt (.lst true (ds.map .int)) [.lst false (ns.map .int), .int most, .lst false (cs.map .int), x3] := by
  simp [sl]
theorem folded_ok (ns : List Int) (hn : ns.length ≤ 63) (most : Int) (h0 : 0 < most) (h1 : most ≤ 1000) : ∃ cs : List Int, f_law_folded [.lst false (ns.map .int), .int most] = .ok (.lst true (cs.map .int)) [] := by
  have rep := rep_mul most h0 h1
  have step : ∀ (i : Nat) (d : D) (e : List D), ((List.range ns.length).map fun (i : Nat) => D.int i)[i]? = some d → (∃ (cs : List Int) (x3 : D), e = [.lst false (ns.map .int), .int most, .lst true (cs.map .int), x3] ∧ cs.length = most.toNat) →
      ∃ e1, Tr.set (.n 3) d e = some e1 ∧ ∃ e2, (w1_law_folded e1 = .nx e2 ∨ w1_law_folded e1 = .ct e2) ∧ (∃ (cs : List Int) (x3 : D), e2 = [.lst false (ns.map .int), .int most, .lst true (cs.map .int), x3] ∧ cs.length = most.toNat) := by
    rintro i d e hd ⟨cs, x3, rfl, hl⟩
    have hi := (List.getElem?_eq_some_iff.mp hd).1
    have hd' := (List.getElem?_eq_some_iff.mp hd).2
    simp at hi hd'
    subst hd'
    obtain ⟨cs', h, hl'⟩ := fold_body ns most h0 h1 cs x3 hl i hi
    exact ⟨_, rfl, _, .inl h, _, _, rfl, hl'⟩
  obtain ⟨e', lp, cs, x3, rfl, hl⟩ := loop_inv (tg := .n 3) (body := w1_law_folded) (fun i e => ∃ (cs : List Int) (x3 : D), e = [.lst false (ns.map .int), .int most, .lst true (cs.map .int), x3] ∧ cs.length = most.toNat) ((List.range ns.length).map fun (i : Nat) => D.int i) 0 [.lst false (ns.map .int), .int most, .lst true ((List.replicate most.toNat (0 : Int)).map .int), .dead] ⟨_, .dead, rfl, by simp⟩ step
  have r1 := range1 ns.length (by omega) (by omega)
  obtain ⟨ds, hds, _⟩ := cut_map D.int cs none (some (max 1 (min (ns.length : Int) most)))
  have sl : dSlB (.lst false (cs.map D.int)) none (some (max 1 (min (ns.length : Int) most))) = some (.lst true (ds.map D.int)) := by
    have e : dSlB (.lst false (cs.map D.int)) none (some (max 1 (min (ns.length : Int) most))) = if ownL (cs.map D.int) = true then none else some (.lst true (dCut (cs.map D.int) none (some (max 1 (min (ns.length : Int) most))))) := rfl
    rw [e, hds, if_neg (by rw [ownL_ints]; decide)]
  refine ⟨ds, ?_⟩
  have r1' : gRange1 [.int (ns.length : Int)] = some ((List.range ns.length).map fun (i : Nat) => D.int i) := by
    rw [Int.toNat_natCast] at r1
    exact r1
  unfold f_law_folded
  rw [runF2]
  unfold b_law_folded
  rw [ev_seq]
  show oR (RS.andThen (sAsg 2 (cApp dMul [(cApp dLst [(cK (.int 0))]), (cVar 1)]) [.lst false (ns.map .int), .int most, .dead, .dead]) _) [] = _
  rw [p1 ns most _ rep, then_nx, ev_seq, p2 ns cs most _ x3 r1' lp, then_nx, p3 ns cs ds most x3 sl]
  rfl
theorem ne_two (a b : Str) (h1 : PyData.strOk a = true) (h2 : PyData.strOk b = true) : dNe [.lst false [.str a, .str b], .lst true [.str a, .str b]] = some (.bl false) := by
  simp [dNe, D.okD, okDL, deq, D.dat, datL, PyData.eqv, PyData.eqvAll, h1, h2]
theorem webOk' {many : Int} {ts : List T} : ∀ c ∈ webL many ts, c < 1114112 := fun c hc => by
  rw [webL_eq] at hc
  simp only [List.mem_append] at hc
  rcases hc with (h | h) | h
  · simp at h; omega
  · exact numOk c h
  · exact flatOk 45 (by omega) ts c h
theorem turn_ok (many : Int) (ts us : List T) (hw : WebOk many ts) (hk : WalkOk us) (sc ce q x7 x8 : D) : ∃ y8, w1_law [sc, ce, q, webD many ts, rowsD us, .str (S (webL many ts)), .str (S (walkL us)), x7, x8, .dead] = .nx [sc, ce, q, webD many ts, rowsD us, .str (S (webL many ts)), .str (S (walkL us)), x7, y8, .dead] := by
  have m1 := hw.m1
  have m7 := hw.m7
  have l1 := hw.len
  have l2 := hk.len
  have wt := web_text_ok many (by omega) ts hw.small (by omega)
  have kt' := walk_text_ok us (fun t m => (hk.ok t m).small) (by omega)
  have rw' := read_web_ok many ts hw
  have rk := read_walk_ok us hk
  have sw := same_web 1 many ts (by omega)
  have sk := same_rows 2 us (by omega)
  have n2 := ne_two (S (webL many ts)) (S (walkL us)) (okS webOk') (okS walkOk)
  have oW : ∀ e, oV (some (webD many ts)) e = .ok (webD many ts) e := fun e => oV_some _ _ (by simp [webD]) rfl
  have oR' : ∀ e, oV (some (rowsD us)) e = .ok (rowsD us) e := fun e => oV_some _ _ (by simp [rowsD]) rfl
  have lc : ∀ a b, lcG [9] (.n 9) cTrue (cIsa [.str] (cVar 9)) [.str a, .str b] [sc, ce, q, webD many ts, rowsD us, .str (S (webL many ts)), .str (S (walkL us)), x7, .lst false [.str a, .str b], .dead] = .ok [.bl true, .bl true] [sc, ce, q, webD many ts, rowsD us, .str (S (webL many ts)), .str (S (walkL us)), x7, .lst false [.str a, .str b], .dead] := fun a b => by
    simp [lcG, Tr.set, kIsa, D.tg, Tg.typed, Tg.isa]
  have al : dAll [.lst true [.bl true, .bl true]] = some (.bl true) := rfl
  refine ⟨.lst false [.str (S (webL many ts)), .str (S (walkL us))], ?_⟩
  unfold w1_law
  simp [oW, oR', wt, kt', lst_n, szL, lc, al, n2, rw', rk, f_law_same, sw, sk]
theorem oVP : True := trivial
theorem cell_ok (sc : D) (ce : Int) (x2 x3 x4 x5 x6 x7 x8 : D) : ∃ y2 y3 y4 y5 y6 y7 y8, w2_law [sc, .int ce, x2, x3, x4, x5, x6, x7, x8, .dead] = .nx [sc, .int ce, y2, y3, y4, y5, y6, y7, y8, .dead] := by
  obtain ⟨q0, hq0, r0⟩ := pool_ok ce
  obtain ⟨many, ts, q1, hq1, hw, r1⟩ := any_web_ok q0 hq0
  obtain ⟨us, q2, hq2, hk, r2⟩ := any_walk_ok q1 hq1
  have m1 := hw.m1
  have m7 := hw.m7
  have l1 := hw.len
  have l2 := hk.len
  have wt := law_web_text_ok many (by omega) ts hw.small (by omega)
  have kt' := law_walk_text_ok us (fun t m => (hk.ok t m).small) (by omega)
  have oW : ∀ e, oV (some (webD many ts)) e = .ok (webD many ts) e := fun e => oV_some _ _ (by simp [webD]) rfl
  have oR' : ∀ e, oV (some (rowsD us)) e = .ok (rowsD us) e := fun e => oV_some _ _ (by simp [rowsD]) rfl
  obtain ⟨y8, t1⟩ := turn_ok many ts us hw hk sc (.int ce) q2 (.int 0) x8
  obtain ⟨z8, t2⟩ := turn_ok many ts us hw hk sc (.int ce) q2 (.int 1) y8
  have rg : gRange1 [.int 2] = some [.int 0, .int 1] := rfl
  refine ⟨q2, webD many ts, rowsD us, .str (S (webL many ts)), .str (S (walkL us)), .int 1, z8, ?_⟩
  unfold w2_law
  simp [r0, r1, r2, oTP, hq0, hq1, hq2, wt, kt', oW, oR', rg, loopF, Tr.set, t1, t2]
theorem value (ns : List Int) (hn : ns.length ≤ 63) : ∃ outs, f_law [.lst false (ns.map .int)] = .ok (.bl true) outs := by
  obtain ⟨cs, hc⟩ := folded_ok ns hn 20 (by decide) (by decide)
  have step : ∀ (i : Nat) (d : D) (e : List D), (cs.map D.int)[i]? = some d → (∃ x1 x2 x3 x4 x5 x6 x7 x8, e = [.lst false (ns.map .int), x1, x2, x3, x4, x5, x6, x7, x8, .dead]) →
      ∃ e1, Tr.set (.n 1) d e = some e1 ∧ ∃ e2, (w2_law e1 = .nx e2 ∨ w2_law e1 = .ct e2) ∧ (∃ x1 x2 x3 x4 x5 x6 x7 x8, e2 = [.lst false (ns.map .int), x1, x2, x3, x4, x5, x6, x7, x8, .dead]) := by
    rintro i d e hd ⟨x1, x2, x3, x4, x5, x6, x7, x8, rfl⟩
    obtain ⟨ce, rfl⟩ : ∃ ce : Int, d = .int ce := by
      rw [List.getElem?_map] at hd
      cases e : cs[i]? with
      | none => rw [e] at hd; cases hd
      | some z => rw [e] at hd; exact ⟨z, (Option.some.inj hd).symm⟩
    obtain ⟨y2, y3, y4, y5, y6, y7, y8, h⟩ := cell_ok (.lst false (ns.map .int)) ce x2 x3 x4 x5 x6 x7 x8
    exact ⟨_, rfl, _, .inl h, _, _, _, _, _, _, _, _, rfl⟩
  obtain ⟨e', lp, x1, x2, x3, x4, x5, x6, x7, x8, rfl⟩ := loop_inv (tg := .n 1) (body := w2_law) (fun i e => ∃ x1 x2 x3 x4 x5 x6 x7 x8, e = [.lst false (ns.map .int), x1, x2, x3, x4, x5, x6, x7, x8, .dead]) (cs.map D.int) 0 [.lst false (ns.map .int), .dead, .dead, .dead, .dead, .dead, .dead, .dead, .dead, .dead] ⟨_, _, _, _, _, _, _, _, rfl⟩ step
  refine ⟨[], ?_⟩
  unfold f_law
  rw [runF1]
  unfold b_law
  simp [hc, lp]
end K87

set_option Elab.async false
set_option maxRecDepth 100000
namespace K87
open PySem L2 PySem.Spec PyProof.Rows VL
theorem all_mk {P : Program} {w : World} {K : PySem.W.Frag} {h : Heap} {mg : Str → Option Value} {fa : Addr} (X : K.In h) (G : h.Ns mainGlobals mg) (hfa : mg "law" = some (.ref fa))
    {f_law_folded : Addr} {od_law_folded an_law_folded : Option Addr} {sl_law_folded : Array (Option Value)} {oc_law_folded kV_law_folded dc_law_folded pm_law_folded cd_law_folded ct_law_folded : Value}
    {f_law_pool : Addr} {od_law_pool an_law_pool : Option Addr} {sl_law_pool : Array (Option Value)} {oc_law_pool kV_law_pool dc_law_pool pm_law_pool cd_law_pool ct_law_pool : Value}
    {f_law_next : Addr} {od_law_next an_law_next : Option Addr} {sl_law_next : Array (Option Value)} {oc_law_next kV_law_next dc_law_next pm_law_next cd_law_next ct_law_next : Value}
    {f_law_moment : Addr} {od_law_moment an_law_moment : Option Addr} {sl_law_moment : Array (Option Value)} {oc_law_moment kV_law_moment dc_law_moment pm_law_moment cd_law_moment ct_law_moment : Value}
    {f_law_any_web : Addr} {od_law_any_web an_law_any_web : Option Addr} {sl_law_any_web : Array (Option Value)} {oc_law_any_web kV_law_any_web dc_law_any_web pm_law_any_web cd_law_any_web ct_law_any_web : Value}
    {f_law_any_walk : Addr} {od_law_any_walk an_law_any_walk : Option Addr} {sl_law_any_walk : Array (Option Value)} {oc_law_any_walk kV_law_any_walk dc_law_any_walk pm_law_any_walk cd_law_any_walk ct_law_any_walk : Value}
    {f_law_web_text : Addr} {od_law_web_text an_law_web_text : Option Addr} {sl_law_web_text : Array (Option Value)} {oc_law_web_text kV_law_web_text dc_law_web_text pm_law_web_text cd_law_web_text ct_law_web_text : Value}
    {f_law_walk_text : Addr} {od_law_walk_text an_law_walk_text : Option Addr} {sl_law_walk_text : Array (Option Value)} {oc_law_walk_text kV_law_walk_text dc_law_walk_text pm_law_walk_text cd_law_walk_text ct_law_walk_text : Value}
    {f_web_text : Addr} {od_web_text an_web_text : Option Addr} {sl_web_text : Array (Option Value)} {oc_web_text kV_web_text dc_web_text pm_web_text cd_web_text ct_web_text : Value}
    {f_walk_text : Addr} {od_walk_text an_walk_text : Option Addr} {sl_walk_text : Array (Option Value)} {oc_walk_text kV_walk_text dc_walk_text pm_walk_text cd_walk_text ct_walk_text : Value}
    {f_law_same : Addr} {od_law_same an_law_same : Option Addr} {sl_law_same : Array (Option Value)} {oc_law_same kV_law_same dc_law_same pm_law_same cd_law_same ct_law_same : Value}
    {f_look_at_text : Addr} {od_look_at_text an_look_at_text : Option Addr} {sl_look_at_text : Array (Option Value)} {oc_look_at_text kV_look_at_text dc_look_at_text pm_look_at_text cd_look_at_text ct_look_at_text : Value}
    {f_read_count : Addr} {od_read_count an_read_count : Option Addr} {sl_read_count : Array (Option Value)} {oc_read_count kV_read_count dc_read_count pm_read_count cd_read_count ct_read_count : Value}
    {f_read_moment : Addr} {od_read_moment an_read_moment : Option Addr} {sl_read_moment : Array (Option Value)} {oc_read_moment kV_read_moment dc_read_moment pm_read_moment cd_read_moment ct_read_moment : Value}
    {f_read_triple : Addr} {od_read_triple an_read_triple : Option Addr} {sl_read_triple : Array (Option Value)} {oc_read_triple kV_read_triple dc_read_triple pm_read_triple cd_read_triple ct_read_triple : Value}
    {f_can_meet : Addr} {od_can_meet an_can_meet : Option Addr} {sl_can_meet : Array (Option Value)} {oc_can_meet kV_can_meet dc_can_meet pm_can_meet cd_can_meet ct_can_meet : Value}
    {f_read_web : Addr} {od_read_web an_read_web : Option Addr} {sl_read_web : Array (Option Value)} {oc_read_web kV_read_web dc_read_web pm_read_web cd_read_web ct_read_web : Value}
    {f_can_follow : Addr} {od_can_follow an_can_follow : Option Addr} {sl_can_follow : Array (Option Value)} {oc_can_follow kV_can_follow dc_can_follow pm_can_follow cd_can_follow ct_can_follow : Value}
    {f_read_walk : Addr} {od_read_walk an_read_walk : Option Addr} {sl_read_walk : Array (Option Value)} {oc_read_walk kV_read_walk dc_read_walk pm_read_walk cd_read_walk ct_read_walk : Value}
    {f_law : Addr} {od_law an_law : Option Addr} {sl_law : Array (Option Value)} {oc_law kV_law dc_law pm_law cd_law ct_law : Value}
    {t_MOST_FIGURES : Tok}
    {t_MOST_PLACES : Tok}
    {t_FAR : Tok}
    {t_MOST_MEETS : Tok}
    (a_law_folded : PySem.W.nsIn K mainGlobals "_law_folded" = some (some (.ref f_law_folded)))
    (l_law_folded : K.lookup f_law_folded = some ⟨oc_law_folded, od_law_folded, .func (PySem.W.fnOf "_law_folded" "_law_folded" (defArgs st_law_folded) (defBody st_law_folded) (defScope st_law_folded) .none kV_law_folded dc_law_folded pm_law_folded an_law_folded cd_law_folded ct_law_folded), sl_law_folded⟩)
    (c_law_folded : PySem.W.codeIn K cd_law_folded "_law_folded" = true)
    (k_law_folded : PySem.W.keepIn K (.ref f_law_folded) = true)
    (a_law_pool : PySem.W.nsIn K mainGlobals "_law_pool" = some (some (.ref f_law_pool)))
    (l_law_pool : K.lookup f_law_pool = some ⟨oc_law_pool, od_law_pool, .func (PySem.W.fnOf "_law_pool" "_law_pool" (defArgs st_law_pool) (defBody st_law_pool) (defScope st_law_pool) .none kV_law_pool dc_law_pool pm_law_pool an_law_pool cd_law_pool ct_law_pool), sl_law_pool⟩)
    (c_law_pool : PySem.W.codeIn K cd_law_pool "_law_pool" = true)
    (k_law_pool : PySem.W.keepIn K (.ref f_law_pool) = true)
    (a_law_next : PySem.W.nsIn K mainGlobals "_law_next" = some (some (.ref f_law_next)))
    (l_law_next : K.lookup f_law_next = some ⟨oc_law_next, od_law_next, .func (PySem.W.fnOf "_law_next" "_law_next" (defArgs st_law_next) (defBody st_law_next) (defScope st_law_next) .none kV_law_next dc_law_next pm_law_next an_law_next cd_law_next ct_law_next), sl_law_next⟩)
    (c_law_next : PySem.W.codeIn K cd_law_next "_law_next" = true)
    (k_law_next : PySem.W.keepIn K (.ref f_law_next) = true)
    (a_law_moment : PySem.W.nsIn K mainGlobals "_law_moment" = some (some (.ref f_law_moment)))
    (l_law_moment : K.lookup f_law_moment = some ⟨oc_law_moment, od_law_moment, .func (PySem.W.fnOf "_law_moment" "_law_moment" (defArgs st_law_moment) (defBody st_law_moment) (defScope st_law_moment) .none kV_law_moment dc_law_moment pm_law_moment an_law_moment cd_law_moment ct_law_moment), sl_law_moment⟩)
    (c_law_moment : PySem.W.codeIn K cd_law_moment "_law_moment" = true)
    (k_law_moment : PySem.W.keepIn K (.ref f_law_moment) = true)
    (a_law_any_web : PySem.W.nsIn K mainGlobals "_law_any_web" = some (some (.ref f_law_any_web)))
    (l_law_any_web : K.lookup f_law_any_web = some ⟨oc_law_any_web, od_law_any_web, .func (PySem.W.fnOf "_law_any_web" "_law_any_web" (defArgs st_law_any_web) (defBody st_law_any_web) (defScope st_law_any_web) .none kV_law_any_web dc_law_any_web pm_law_any_web an_law_any_web cd_law_any_web ct_law_any_web), sl_law_any_web⟩)
    (c_law_any_web : PySem.W.codeIn K cd_law_any_web "_law_any_web" = true)
    (k_law_any_web : PySem.W.keepIn K (.ref f_law_any_web) = true)
    (a_law_any_walk : PySem.W.nsIn K mainGlobals "_law_any_walk" = some (some (.ref f_law_any_walk)))
    (l_law_any_walk : K.lookup f_law_any_walk = some ⟨oc_law_any_walk, od_law_any_walk, .func (PySem.W.fnOf "_law_any_walk" "_law_any_walk" (defArgs st_law_any_walk) (defBody st_law_any_walk) (defScope st_law_any_walk) .none kV_law_any_walk dc_law_any_walk pm_law_any_walk an_law_any_walk cd_law_any_walk ct_law_any_walk), sl_law_any_walk⟩)
    (c_law_any_walk : PySem.W.codeIn K cd_law_any_walk "_law_any_walk" = true)
    (k_law_any_walk : PySem.W.keepIn K (.ref f_law_any_walk) = true)
    (a_law_web_text : PySem.W.nsIn K mainGlobals "_law_web_text" = some (some (.ref f_law_web_text)))
    (l_law_web_text : K.lookup f_law_web_text = some ⟨oc_law_web_text, od_law_web_text, .func (PySem.W.fnOf "_law_web_text" "_law_web_text" (defArgs st_law_web_text) (defBody st_law_web_text) (defScope st_law_web_text) .none kV_law_web_text dc_law_web_text pm_law_web_text an_law_web_text cd_law_web_text ct_law_web_text), sl_law_web_text⟩)
    (c_law_web_text : PySem.W.codeIn K cd_law_web_text "_law_web_text" = true)
    (k_law_web_text : PySem.W.keepIn K (.ref f_law_web_text) = true)
    (a_law_walk_text : PySem.W.nsIn K mainGlobals "_law_walk_text" = some (some (.ref f_law_walk_text)))
    (l_law_walk_text : K.lookup f_law_walk_text = some ⟨oc_law_walk_text, od_law_walk_text, .func (PySem.W.fnOf "_law_walk_text" "_law_walk_text" (defArgs st_law_walk_text) (defBody st_law_walk_text) (defScope st_law_walk_text) .none kV_law_walk_text dc_law_walk_text pm_law_walk_text an_law_walk_text cd_law_walk_text ct_law_walk_text), sl_law_walk_text⟩)
    (c_law_walk_text : PySem.W.codeIn K cd_law_walk_text "_law_walk_text" = true)
    (k_law_walk_text : PySem.W.keepIn K (.ref f_law_walk_text) = true)
    (a_web_text : PySem.W.nsIn K mainGlobals "web_text" = some (some (.ref f_web_text)))
    (l_web_text : K.lookup f_web_text = some ⟨oc_web_text, od_web_text, .func (PySem.W.fnOf "web_text" "web_text" (defArgs st_web_text) (defBody st_web_text) (defScope st_web_text) .none kV_web_text dc_web_text pm_web_text an_web_text cd_web_text ct_web_text), sl_web_text⟩)
    (c_web_text : PySem.W.codeIn K cd_web_text "web_text" = true)
    (k_web_text : PySem.W.keepIn K (.ref f_web_text) = true)
    (a_walk_text : PySem.W.nsIn K mainGlobals "walk_text" = some (some (.ref f_walk_text)))
    (l_walk_text : K.lookup f_walk_text = some ⟨oc_walk_text, od_walk_text, .func (PySem.W.fnOf "walk_text" "walk_text" (defArgs st_walk_text) (defBody st_walk_text) (defScope st_walk_text) .none kV_walk_text dc_walk_text pm_walk_text an_walk_text cd_walk_text ct_walk_text), sl_walk_text⟩)
    (c_walk_text : PySem.W.codeIn K cd_walk_text "walk_text" = true)
    (k_walk_text : PySem.W.keepIn K (.ref f_walk_text) = true)
    (a_law_same : PySem.W.nsIn K mainGlobals "_law_same" = some (some (.ref f_law_same)))
    (l_law_same : K.lookup f_law_same = some ⟨oc_law_same, od_law_same, .func (PySem.W.fnOf "_law_same" "_law_same" (defArgs st_law_same) (defBody st_law_same) (defScope st_law_same) .none kV_law_same dc_law_same pm_law_same an_law_same cd_law_same ct_law_same), sl_law_same⟩)
    (c_law_same : PySem.W.codeIn K cd_law_same "_law_same" = true)
    (k_law_same : PySem.W.keepIn K (.ref f_law_same) = true)
    (a_look_at_text : PySem.W.nsIn K mainGlobals "look_at_text" = some (some (.ref f_look_at_text)))
    (l_look_at_text : K.lookup f_look_at_text = some ⟨oc_look_at_text, od_look_at_text, .func (PySem.W.fnOf "look_at_text" "look_at_text" (defArgs st_look_at_text) (defBody st_look_at_text) (defScope st_look_at_text) .none kV_look_at_text dc_look_at_text pm_look_at_text an_look_at_text cd_look_at_text ct_look_at_text), sl_look_at_text⟩)
    (c_look_at_text : PySem.W.codeIn K cd_look_at_text "look_at_text" = true)
    (k_look_at_text : PySem.W.keepIn K (.ref f_look_at_text) = true)
    (a_read_count : PySem.W.nsIn K mainGlobals "read_count" = some (some (.ref f_read_count)))
    (l_read_count : K.lookup f_read_count = some ⟨oc_read_count, od_read_count, .func (PySem.W.fnOf "read_count" "read_count" (defArgs st_read_count) (defBody st_read_count) (defScope st_read_count) .none kV_read_count dc_read_count pm_read_count an_read_count cd_read_count ct_read_count), sl_read_count⟩)
    (c_read_count : PySem.W.codeIn K cd_read_count "read_count" = true)
    (k_read_count : PySem.W.keepIn K (.ref f_read_count) = true)
    (a_read_moment : PySem.W.nsIn K mainGlobals "read_moment" = some (some (.ref f_read_moment)))
    (l_read_moment : K.lookup f_read_moment = some ⟨oc_read_moment, od_read_moment, .func (PySem.W.fnOf "read_moment" "read_moment" (defArgs st_read_moment) (defBody st_read_moment) (defScope st_read_moment) .none kV_read_moment dc_read_moment pm_read_moment an_read_moment cd_read_moment ct_read_moment), sl_read_moment⟩)
    (c_read_moment : PySem.W.codeIn K cd_read_moment "read_moment" = true)
    (k_read_moment : PySem.W.keepIn K (.ref f_read_moment) = true)
    (a_read_triple : PySem.W.nsIn K mainGlobals "read_triple" = some (some (.ref f_read_triple)))
    (l_read_triple : K.lookup f_read_triple = some ⟨oc_read_triple, od_read_triple, .func (PySem.W.fnOf "read_triple" "read_triple" (defArgs st_read_triple) (defBody st_read_triple) (defScope st_read_triple) .none kV_read_triple dc_read_triple pm_read_triple an_read_triple cd_read_triple ct_read_triple), sl_read_triple⟩)
    (c_read_triple : PySem.W.codeIn K cd_read_triple "read_triple" = true)
    (k_read_triple : PySem.W.keepIn K (.ref f_read_triple) = true)
    (a_can_meet : PySem.W.nsIn K mainGlobals "can_meet" = some (some (.ref f_can_meet)))
    (l_can_meet : K.lookup f_can_meet = some ⟨oc_can_meet, od_can_meet, .func (PySem.W.fnOf "can_meet" "can_meet" (defArgs st_can_meet) (defBody st_can_meet) (defScope st_can_meet) .none kV_can_meet dc_can_meet pm_can_meet an_can_meet cd_can_meet ct_can_meet), sl_can_meet⟩)
    (c_can_meet : PySem.W.codeIn K cd_can_meet "can_meet" = true)
    (k_can_meet : PySem.W.keepIn K (.ref f_can_meet) = true)
    (a_read_web : PySem.W.nsIn K mainGlobals "read_web" = some (some (.ref f_read_web)))
    (l_read_web : K.lookup f_read_web = some ⟨oc_read_web, od_read_web, .func (PySem.W.fnOf "read_web" "read_web" (defArgs st_read_web) (defBody st_read_web) (defScope st_read_web) .none kV_read_web dc_read_web pm_read_web an_read_web cd_read_web ct_read_web), sl_read_web⟩)
    (c_read_web : PySem.W.codeIn K cd_read_web "read_web" = true)
    (k_read_web : PySem.W.keepIn K (.ref f_read_web) = true)
    (a_can_follow : PySem.W.nsIn K mainGlobals "can_follow" = some (some (.ref f_can_follow)))
    (l_can_follow : K.lookup f_can_follow = some ⟨oc_can_follow, od_can_follow, .func (PySem.W.fnOf "can_follow" "can_follow" (defArgs st_can_follow) (defBody st_can_follow) (defScope st_can_follow) .none kV_can_follow dc_can_follow pm_can_follow an_can_follow cd_can_follow ct_can_follow), sl_can_follow⟩)
    (c_can_follow : PySem.W.codeIn K cd_can_follow "can_follow" = true)
    (k_can_follow : PySem.W.keepIn K (.ref f_can_follow) = true)
    (a_read_walk : PySem.W.nsIn K mainGlobals "read_walk" = some (some (.ref f_read_walk)))
    (l_read_walk : K.lookup f_read_walk = some ⟨oc_read_walk, od_read_walk, .func (PySem.W.fnOf "read_walk" "read_walk" (defArgs st_read_walk) (defBody st_read_walk) (defScope st_read_walk) .none kV_read_walk dc_read_walk pm_read_walk an_read_walk cd_read_walk ct_read_walk), sl_read_walk⟩)
    (c_read_walk : PySem.W.codeIn K cd_read_walk "read_walk" = true)
    (k_read_walk : PySem.W.keepIn K (.ref f_read_walk) = true)
    (a_law : PySem.W.nsIn K mainGlobals "law" = some (some (.ref f_law)))
    (l_law : K.lookup f_law = some ⟨oc_law, od_law, .func (PySem.W.fnOf "law" "law" (defArgs st_law) (defBody st_law) (defScope st_law) .none kV_law dc_law pm_law an_law cd_law ct_law), sl_law⟩)
    (c_law : PySem.W.codeIn K cd_law "law" = true)
    (k_law : PySem.W.keepIn K (.ref f_law) = true)
    (n_MOST_FIGURES : PySem.W.nsIn K mainGlobals "MOST_FIGURES" = some (some (.int (30) t_MOST_FIGURES)))
    (n_MOST_PLACES : PySem.W.nsIn K mainGlobals "MOST_PLACES" = some (some (.int (7) t_MOST_PLACES)))
    (n_FAR : PySem.W.nsIn K mainGlobals "FAR" = some (some (.int (1000000000) t_FAR)))
    (n_MOST_MEETS : PySem.W.nsIn K mainGlobals "MOST_MEETS" = some (some (.int (24) t_MOST_MEETS)))
    (z_len : PySem.W.nsIn K mainGlobals "len" = some none)
    (z_max : PySem.W.nsIn K mainGlobals "max" = some none)
    (z_min : PySem.W.nsIn K mainGlobals "min" = some none)
    (z_abs : PySem.W.nsIn K mainGlobals "abs" = some none)
    (z_all : PySem.W.nsIn K mainGlobals "all" = some none)
    (z_any : PySem.W.nsIn K mainGlobals "any" = some none)
    (z_sum : PySem.W.nsIn K mainGlobals "sum" = some none)
    (z_sorted : PySem.W.nsIn K mainGlobals "sorted" = some none)
    (z_int : PySem.W.nsIn K mainGlobals "int" = some none)
    (z_str : PySem.W.nsIn K mainGlobals "str" = some none)
    (z_list : PySem.W.nsIn K mainGlobals "list" = some none)
    (z_tuple : PySem.W.nsIn K mainGlobals "tuple" = some none)
    (z_bool : PySem.W.nsIn K mainGlobals "bool" = some none)
    (z_isinstance : PySem.W.nsIn K mainGlobals "isinstance" = some none)
    (z_range : PySem.W.nsIn K mainGlobals "range" = some none)
    (z_enumerate : PySem.W.nsIn K mainGlobals "enumerate" = some none)
    (z_zip : PySem.W.nsIn K mainGlobals "zip" = some none)
    (z_set : PySem.W.nsIn K mainGlobals "set" = some none)
    (z_dict : PySem.W.nsIn K mainGlobals "dict" = some none)
    : ∃ fd : FuncData, (∀ (s : Shared) (v : Value), BindsTo s fd ⟨[v], []⟩ [("script", v)]) ∧ ∀ base : Heap, K.In base → base.Ns mainGlobals mg → FnOk P w K mg base (L2.CX P w) 7 fa fd ["script"] (spLaw K) := by
  have E_law_folded : Ent K mg "_law_folded" st_law_folded ["script", "most"] := ent_mk X G a_law_folded l_law_folded c_law_folded k_law_folded (fun _ _ _ _ _ _ us hl => match us, hl with | [_, _], _ => rfl)
  have E_law_pool : Ent K mg "_law_pool" st_law_pool ["cell"] := ent_mk X G a_law_pool l_law_pool c_law_pool k_law_pool (fun _ _ _ _ _ _ us hl => match us, hl with | [_], _ => rfl)
  have E_law_next : Ent K mg "_law_next" st_law_next ["pool", "base"] := ent_mk X G a_law_next l_law_next c_law_next k_law_next (fun _ _ _ _ _ _ us hl => match us, hl with | [_, _], _ => rfl)
  have E_law_moment : Ent K mg "_law_moment" st_law_moment ["pool", "kind"] := ent_mk X G a_law_moment l_law_moment c_law_moment k_law_moment (fun _ _ _ _ _ _ us hl => match us, hl with | [_, _], _ => rfl)
  have E_law_any_web : Ent K mg "_law_any_web" st_law_any_web ["pool"] := ent_mk X G a_law_any_web l_law_any_web c_law_any_web k_law_any_web (fun _ _ _ _ _ _ us hl => match us, hl with | [_], _ => rfl)
  have E_law_any_walk : Ent K mg "_law_any_walk" st_law_any_walk ["pool"] := ent_mk X G a_law_any_walk l_law_any_walk c_law_any_walk k_law_any_walk (fun _ _ _ _ _ _ us hl => match us, hl with | [_], _ => rfl)
  have E_law_web_text : Ent K mg "_law_web_text" st_law_web_text ["web"] := ent_mk X G a_law_web_text l_law_web_text c_law_web_text k_law_web_text (fun _ _ _ _ _ _ us hl => match us, hl with | [_], _ => rfl)
  have E_law_walk_text : Ent K mg "_law_walk_text" st_law_walk_text ["walk"] := ent_mk X G a_law_walk_text l_law_walk_text c_law_walk_text k_law_walk_text (fun _ _ _ _ _ _ us hl => match us, hl with | [_], _ => rfl)
  have E_web_text : Ent K mg "web_text" st_web_text ["web"] := ent_mk X G a_web_text l_web_text c_web_text k_web_text (fun _ _ _ _ _ _ us hl => match us, hl with | [_], _ => rfl)
  have E_walk_text : Ent K mg "walk_text" st_walk_text ["walk"] := ent_mk X G a_walk_text l_walk_text c_walk_text k_walk_text (fun _ _ _ _ _ _ us hl => match us, hl with | [_], _ => rfl)
  have E_law_same : Ent K mg "_law_same" st_law_same ["found", "due"] := ent_mk X G a_law_same l_law_same c_law_same k_law_same (fun _ _ _ _ _ _ us hl => match us, hl with | [_, _], _ => rfl)
  have E_look_at_text : Ent K mg "look_at_text" st_look_at_text ["thing"] := ent_mk X G a_look_at_text l_look_at_text c_look_at_text k_look_at_text (fun _ _ _ _ _ _ us hl => match us, hl with | [_], _ => rfl)
  have E_read_count : Ent K mg "read_count" st_read_count ["word"] := ent_mk X G a_read_count l_read_count c_read_count k_read_count (fun _ _ _ _ _ _ us hl => match us, hl with | [_], _ => rfl)
  have E_read_moment : Ent K mg "read_moment" st_read_moment ["word"] := ent_mk X G a_read_moment l_read_moment c_read_moment k_read_moment (fun _ _ _ _ _ _ us hl => match us, hl with | [_], _ => rfl)
  have E_read_triple : Ent K mg "read_triple" st_read_triple ["piece", "mark"] := ent_mk X G a_read_triple l_read_triple c_read_triple k_read_triple (fun _ _ _ _ _ _ us hl => match us, hl with | [_, _], _ => rfl)
  have E_can_meet : Ent K mg "can_meet" st_can_meet ["meets", "meet", "many"] := ent_mk X G a_can_meet l_can_meet c_can_meet k_can_meet (fun _ _ _ _ _ _ us hl => match us, hl with | [_, _, _], _ => rfl)
  have E_read_web : Ent K mg "read_web" st_read_web ["thing"] := ent_mk X G a_read_web l_read_web c_read_web k_read_web (fun _ _ _ _ _ _ us hl => match us, hl with | [_], _ => rfl)
  have E_can_follow : Ent K mg "can_follow" st_can_follow ["steps", "step"] := ent_mk X G a_can_follow l_can_follow c_can_follow k_can_follow (fun _ _ _ _ _ _ us hl => match us, hl with | [_, _], _ => rfl)
  have E_read_walk : Ent K mg "read_walk" st_read_walk ["thing"] := ent_mk X G a_read_walk l_read_walk c_read_walk k_read_walk (fun _ _ _ _ _ _ us hl => match us, hl with | [_], _ => rfl)
  have E_law : Ent K mg "law" st_law ["script"] := ent_mk X G a_law l_law c_law k_law (fun _ _ _ _ _ _ us hl => match us, hl with | [_], _ => rfl)
  have hbl : ∀ x ∈ blL, mg x = none := (List.forall_mem_cons.2 ⟨PySem.W.mg_none_of X G z_len, (List.forall_mem_cons.2 ⟨PySem.W.mg_none_of X G z_max, (List.forall_mem_cons.2 ⟨PySem.W.mg_none_of X G z_min, (List.forall_mem_cons.2 ⟨PySem.W.mg_none_of X G z_abs, (List.forall_mem_cons.2 ⟨PySem.W.mg_none_of X G z_all, (List.forall_mem_cons.2 ⟨PySem.W.mg_none_of X G z_any, (List.forall_mem_cons.2 ⟨PySem.W.mg_none_of X G z_sum, (List.forall_mem_cons.2 ⟨PySem.W.mg_none_of X G z_sorted, (List.forall_mem_cons.2 ⟨PySem.W.mg_none_of X G z_int, (List.forall_mem_cons.2 ⟨PySem.W.mg_none_of X G z_str, (List.forall_mem_cons.2 ⟨PySem.W.mg_none_of X G z_list, (List.forall_mem_cons.2 ⟨PySem.W.mg_none_of X G z_tuple, (List.forall_mem_cons.2 ⟨PySem.W.mg_none_of X G z_bool, (List.forall_mem_cons.2 ⟨PySem.W.mg_none_of X G z_isinstance, (List.forall_mem_cons.2 ⟨PySem.W.mg_none_of X G z_range, (List.forall_mem_cons.2 ⟨PySem.W.mg_none_of X G z_enumerate, (List.forall_mem_cons.2 ⟨PySem.W.mg_none_of X G z_zip, (List.forall_mem_cons.2 ⟨PySem.W.mg_none_of X G z_set, (List.forall_mem_cons.2 ⟨PySem.W.mg_none_of X G z_dict, (fun x m => by cases m)⟩)⟩)⟩)⟩)⟩)⟩)⟩)⟩)⟩)⟩)⟩)⟩)⟩)⟩)⟩)⟩)⟩)⟩)⟩)
  have hc_MOST_FIGURES := PySem.W.mg_of X G n_MOST_FIGURES
  have hc_MOST_PLACES := PySem.W.mg_of X G n_MOST_PLACES
  have hc_FAR := PySem.W.mg_of X G n_FAR
  have hc_MOST_MEETS := PySem.W.mg_of X G n_MOST_MEETS
  refine law_mk X G hfa a_law l_law (fun s v => .of_eq rfl) (fun base hK hG => ?_) value
  have C__law_folded := cal_law_folded (P := P) (w := w) (base := base) E_law_folded hbl  
  have C__law_pool := cal_law_pool (P := P) (w := w) (base := base) E_law_pool hbl  
  have C__law_next := cal_law_next (P := P) (w := w) (base := base) E_law_next hbl  
  have C__law_moment := cal_law_moment (P := P) (w := w) (base := base) E_law_moment hbl C__law_next 
  have C__law_any_web := cal_law_any_web (P := P) (w := w) (base := base) E_law_any_web hbl C__law_next C__law_moment 
  have C__law_any_walk := cal_law_any_walk (P := P) (w := w) (base := base) E_law_any_walk hbl C__law_next 
  have C__law_web_text := cal_law_web_text (P := P) (w := w) (base := base) E_law_web_text hbl  
  have C__law_walk_text := cal_law_walk_text (P := P) (w := w) (base := base) E_law_walk_text hbl  
  have C_web_text := cal_web_text (P := P) (w := w) (base := base) E_web_text hbl  
  have C_walk_text := cal_walk_text (P := P) (w := w) (base := base) E_walk_text hbl  
  have C__law_same := cal_law_same (P := P) (w := w) (base := base) E_law_same hbl  
  have C_look_at_text := cal_look_at_text (P := P) (w := w) (base := base) E_look_at_text hbl  
  have C_read_count := cal_read_count (P := P) (w := w) (base := base) E_read_count hbl  ⟨_, hc_MOST_FIGURES⟩
  have C_read_moment := cal_read_moment (P := P) (w := w) (base := base) E_read_moment hbl C_read_count 
  have C_read_triple := cal_read_triple (P := P) (w := w) (base := base) E_read_triple hbl C_read_moment C_read_count ⟨_, hc_MOST_PLACES⟩
  have C_can_meet := cal_can_meet (P := P) (w := w) (base := base) E_can_meet hbl  ⟨_, hc_FAR⟩ ⟨_, hc_MOST_MEETS⟩
  have C_read_web := cal_read_web (P := P) (w := w) (base := base) E_read_web hbl C_look_at_text C_read_count C_read_triple C_can_meet ⟨_, hc_MOST_PLACES⟩
  have C_can_follow := cal_can_follow (P := P) (w := w) (base := base) E_can_follow hbl  
  have C_read_walk := cal_read_walk (P := P) (w := w) (base := base) E_read_walk hbl C_look_at_text C_read_triple C_can_follow 
  have C_law := cal_law (P := P) (w := w) (base := base) E_law hbl C__law_folded C__law_pool C__law_any_web C__law_any_walk C__law_web_text C__law_walk_text C_web_text C_walk_text C_read_web C__law_same C_read_walk 
  exact C_law
end K87
open PySem PySem.W PyProof.Rows
set_option maxRecDepth 100000 in
set_option maxHeartbeats 0 in
theorem PySem.Challenge.cw_whenmeet_k87_webs_and_walks_written_holds : PySem.Challenge.rw_whenmeet_k87_webs_and_walks_written.Holds := by
  w_on; o_law; k_head; (case hw => w_witness2)
  k_fill
  refine VL.law_walk (l := PySem.Challenge.rw_whenmeet_k87_webs_and_walks_written) (k := 7) (by decide) rfl rfl (fun w h Y => PySem.W.kIn_of Y) ?F
  case F =>
    intro w mg fa h KX G hmg
    refine' K87.all_mk KX G hmg ?a_law_folded ?l_law_folded ?c_law_folded ?k_law_folded ?a_law_pool ?l_law_pool ?c_law_pool ?k_law_pool ?a_law_next ?l_law_next ?c_law_next ?k_law_next ?a_law_moment ?l_law_moment ?c_law_moment ?k_law_moment ?a_law_any_web ?l_law_any_web ?c_law_any_web ?k_law_any_web ?a_law_any_walk ?l_law_any_walk ?c_law_any_walk ?k_law_any_walk ?a_law_web_text ?l_law_web_text ?c_law_web_text ?k_law_web_text ?a_law_walk_text ?l_law_walk_text ?c_law_walk_text ?k_law_walk_text ?a_web_text ?l_web_text ?c_web_text ?k_web_text ?a_walk_text ?l_walk_text ?c_walk_text ?k_walk_text ?a_law_same ?l_law_same ?c_law_same ?k_law_same ?a_look_at_text ?l_look_at_text ?c_look_at_text ?k_look_at_text ?a_read_count ?l_read_count ?c_read_count ?k_read_count ?a_read_moment ?l_read_moment ?c_read_moment ?k_read_moment ?a_read_triple ?l_read_triple ?c_read_triple ?k_read_triple ?a_can_meet ?l_can_meet ?c_can_meet ?k_can_meet ?a_read_web ?l_read_web ?c_read_web ?k_read_web ?a_can_follow ?l_can_follow ?c_can_follow ?k_can_follow ?a_read_walk ?l_read_walk ?c_read_walk ?k_read_walk ?a_law ?l_law ?c_law ?k_law ?n_MOST_FIGURES ?n_MOST_PLACES ?n_FAR ?n_MOST_MEETS ?z_len ?z_max ?z_min ?z_abs ?z_all ?z_any ?z_sum ?z_sorted ?z_int ?z_str ?z_list ?z_tuple ?z_bool ?z_isinstance ?z_range ?z_enumerate ?z_zip ?z_set ?z_dict
    (case a_law_folded => k_is)
    (case l_law_folded => k_is)
    (case c_law_folded => k_is)
    (case k_law_folded => k_is)
    (case a_law_pool => k_is)
    (case l_law_pool => k_is)
    (case c_law_pool => k_is)
    (case k_law_pool => k_is)
    (case a_law_next => k_is)
    (case l_law_next => k_is)
    (case c_law_next => k_is)
    (case k_law_next => k_is)
    (case a_law_moment => k_is)
    (case l_law_moment => k_is)
    (case c_law_moment => k_is)
    (case k_law_moment => k_is)
    (case a_law_any_web => k_is)
    (case l_law_any_web => k_is)
    (case c_law_any_web => k_is)
    (case k_law_any_web => k_is)
    (case a_law_any_walk => k_is)
    (case l_law_any_walk => k_is)
    (case c_law_any_walk => k_is)
    (case k_law_any_walk => k_is)
    (case a_law_web_text => k_is)
    (case l_law_web_text => k_is)
    (case c_law_web_text => k_is)
    (case k_law_web_text => k_is)
    (case a_law_walk_text => k_is)
    (case l_law_walk_text => k_is)
    (case c_law_walk_text => k_is)
    (case k_law_walk_text => k_is)
    (case a_web_text => k_is)
    (case l_web_text => k_is)
    (case c_web_text => k_is)
    (case k_web_text => k_is)
    (case a_walk_text => k_is)
    (case l_walk_text => k_is)
    (case c_walk_text => k_is)
    (case k_walk_text => k_is)
    (case a_law_same => k_is)
    (case l_law_same => k_is)
    (case c_law_same => k_is)
    (case k_law_same => k_is)
    (case a_look_at_text => k_is)
    (case l_look_at_text => k_is)
    (case c_look_at_text => k_is)
    (case k_look_at_text => k_is)
    (case a_read_count => k_is)
    (case l_read_count => k_is)
    (case c_read_count => k_is)
    (case k_read_count => k_is)
    (case a_read_moment => k_is)
    (case l_read_moment => k_is)
    (case c_read_moment => k_is)
    (case k_read_moment => k_is)
    (case a_read_triple => k_is)
    (case l_read_triple => k_is)
    (case c_read_triple => k_is)
    (case k_read_triple => k_is)
    (case a_can_meet => k_is)
    (case l_can_meet => k_is)
    (case c_can_meet => k_is)
    (case k_can_meet => k_is)
    (case a_read_web => k_is)
    (case l_read_web => k_is)
    (case c_read_web => k_is)
    (case k_read_web => k_is)
    (case a_can_follow => k_is)
    (case l_can_follow => k_is)
    (case c_can_follow => k_is)
    (case k_can_follow => k_is)
    (case a_read_walk => k_is)
    (case l_read_walk => k_is)
    (case c_read_walk => k_is)
    (case k_read_walk => k_is)
    (case a_law => k_is)
    (case l_law => k_is)
    (case c_law => k_is)
    (case k_law => k_is)
    (case n_MOST_FIGURES => k_is)
    (case n_MOST_PLACES => k_is)
    (case n_FAR => k_is)
    (case n_MOST_MEETS => k_is)
    (case z_len => k_is)
    (case z_max => k_is)
    (case z_min => k_is)
    (case z_abs => k_is)
    (case z_all => k_is)
    (case z_any => k_is)
    (case z_sum => k_is)
    (case z_sorted => k_is)
    (case z_int => k_is)
    (case z_str => k_is)
    (case z_list => k_is)
    (case z_tuple => k_is)
    (case z_bool => k_is)
    (case z_isinstance => k_is)
    (case z_range => k_is)
    (case z_enumerate => k_is)
    (case z_zip => k_is)
    (case z_set => k_is)
    (case z_dict => k_is)
