import PyProof.Rows.All
import Wide.All
import OpenK.AllK
import Wide.FinOn
import HandS.NoneIn
import HandS.ForMost
import HandS.Exc
import HandS.IsInst
import HandS.Style
import HandS.TupAny
import HandS.TupMul
import HandS.Wide
import HandS.Flow
import KE.KTupSum
import HandS.Text
import HandS.CallSlots
import HandS.WordsExc
import HandS.Lambda
import HandS.HeadEnd
import HandS.Walk
import HandS.Rev
import HandS.Zip
import HandS.Deep
import HandS.WideMore
import KE.GoesMore
import KE.GoesZip
import KE.GoesEnum
import KE.GoesEnumKw
import KE.KRevSl
import PyProof.ReprRoads
import HandS.RaiseMore
import PyProof.Rows.RegStrFacts
import HandS.More
import KE.DataMinMax
import HandS.Head0
import HandS.Head1
import HandS.Head2
import HandS.HeadHook1
import PySem.Challenge.RW_forthback_k65_whole_never_further_apart
set_option Elab.async false
set_option linter.all false
set_option maxRecDepth 100000
/-! Ev: plain values for Python data, mirrors of code as functions, and what it means that a mirror is sound. -/
namespace Ev
open PySem L2

/-- plain values -/
inductive PV where
  | non | bl (b : Bool) | int (i : Int) | str (x : Str)
  | tup (xs : List PV) | lst (xs : List PV)
  | dic (ks : List Key) (vs : List PV)
  | scr (ns : List Int)
  | ty (n : String)

mutual
def Rep (K : PySem.W.Frag) (F : Hp) : PV → V → Prop
  | .non, v => v = .non
  | .bl b, v => v = .bl b
  | .int i, v => v = .int i
  | .str x, v => v = .str x
  | .tup xs, v => ∃ a vs, v = .ref a ∧ F a = some (.tup vs) ∧ Reps K F xs vs
  | .lst xs, v => ∃ a vs, v = .ref a ∧ F a = some (.lst vs) ∧ Reps K F xs vs
  | .dic ks xs, v => ∃ a vs, v = .ref a ∧ F a = some (.dK (ks.zip vs)) ∧ ks.length = vs.length ∧ Reps K F xs vs
  | .scr ns, v => ∃ a, v = .ref a ∧ SqL K F a (ns.map V.int)
  | .ty n, v => v = .ty n
def Reps (K : PySem.W.Frag) (F : Hp) : List PV → List V → Prop
  | [], vs => vs = []
  | x :: xs, vs => ∃ v r, vs = v :: r ∧ Rep K F x v ∧ Reps K F xs r
end

mutual
theorem Rep.mono {K : PySem.W.Frag} {F F' : Hp} (h : Same F F') : ∀ (p : PV) (v : V), Rep K F p v → Rep K F' p v
  | .non, v, r => by simpa [Rep] using r
  | .bl b, v, r => by simpa [Rep] using r
  | .int i, v, r => by simpa [Rep] using r
  | .str x, v, r => by simpa [Rep] using r
  | .tup xs, v, r => by
    unfold Rep at r ⊢
    obtain ⟨a, vs, e, q, t⟩ := r
    exact ⟨a, vs, e, h _ _ q, Reps.mono h xs vs t⟩
  | .lst xs, v, r => by
    unfold Rep at r ⊢
    obtain ⟨a, vs, e, q, t⟩ := r
    exact ⟨a, vs, e, h _ _ q, Reps.mono h xs vs t⟩
  | .dic ks xs, v, r => by
    unfold Rep at r ⊢
    obtain ⟨a, vs, e, q, l, t⟩ := r
    exact ⟨a, vs, e, h _ _ q, l, Reps.mono h xs vs t⟩
  | .scr ns, v, r => by
    unfold Rep at r ⊢
    obtain ⟨a, e, q⟩ := r
    exact ⟨a, e, h.seq q⟩
  | .ty n, v, r => by simpa [Rep] using r
theorem Reps.mono {K : PySem.W.Frag} {F F' : Hp} (h : Same F F') : ∀ (ps : List PV) (vs : List V), Reps K F ps vs → Reps K F' ps vs
  | [], vs, r => by simpa [Reps] using r
  | p :: ps, vs, r => by
    unfold Reps at r ⊢
    obtain ⟨v, s, e, a, b⟩ := r
    exact ⟨v, s, e, Rep.mono h p v a, Reps.mono h ps s b⟩
end
section
variable {K : PySem.W.Frag} {F F' : Hp}
theorem Reps.length : ∀ {ps : List PV} {vs : List V}, Reps K F ps vs → ps.length = vs.length
  | [], vs, r => by unfold Reps at r; subst r; rfl
  | p :: ps, vs, r => by
    unfold Reps at r
    obtain ⟨v, s, rfl, _, b⟩ := r
    simp [Reps.length b]
theorem Reps.nil : Reps K F [] [] := by unfold Reps; rfl
theorem Reps.cons {p : PV} {ps : List PV} {v : V} {vs : List V} (a : Rep K F p v) (b : Reps K F ps vs) : Reps K F (p :: ps) (v :: vs) := by
  unfold Reps; exact ⟨v, vs, rfl, a, b⟩
theorem Reps.inv {p : PV} {ps : List PV} {ws : List V} (h : Reps K F (p :: ps) ws) : ∃ v vs, ws = v :: vs ∧ Rep K F p v ∧ Reps K F ps vs := by
  unfold Reps at h; exact h
theorem Reps.inv0 {ws : List V} (h : Reps K F [] ws) : ws = [] := by
  unfold Reps at h; exact h
theorem Reps.append : ∀ {ps qs : List PV} {vs ws : List V}, Reps K F ps vs → Reps K F qs ws → Reps K F (ps ++ qs) (vs ++ ws)
  | [], qs, vs, ws, a, b => by rw [a.inv0]; exact b
  | p :: ps, qs, vs, ws, a, b => by
    obtain ⟨v, r, rfl, x, y⟩ := a.inv
    exact Reps.cons x (Reps.append y b)
theorem Reps.get : ∀ {ps : List PV} {vs : List V} {i : Nat} {p : PV}, Reps K F ps vs → ps[i]? = some p → ∃ v, vs[i]? = some v ∧ Rep K F p v
  | [], vs, i, p, a, e => by simp at e
  | q :: ps, vs, 0, p, a, e => by
    obtain ⟨v, r, rfl, x, y⟩ := a.inv
    simp at e; subst e
    exact ⟨v, rfl, x⟩
  | q :: ps, vs, i + 1, p, a, e => by
    obtain ⟨v, r, rfl, x, y⟩ := a.inv
    obtain ⟨w, h1, h2⟩ := Reps.get (i := i) y (by simpa using e)
    exact ⟨w, by simpa using h1, h2⟩
theorem Reps.getv : ∀ {ps : List PV} {vs : List V} {i : Nat} {v : V}, Reps K F ps vs → vs[i]? = some v → ∃ p, ps[i]? = some p ∧ Rep K F p v
  | [], vs, i, v, a, e => by rw [a.inv0] at e; simp at e
  | q :: ps, vs, 0, v, a, e => by
    obtain ⟨w, r, rfl, x, y⟩ := a.inv
    simp at e; subst e
    exact ⟨q, rfl, x⟩
  | q :: ps, vs, i + 1, v, a, e => by
    obtain ⟨w, r, rfl, x, y⟩ := a.inv
    obtain ⟨p, h1, h2⟩ := Reps.getv (i := i) y (by simpa using e)
    exact ⟨p, by simpa using h1, h2⟩
theorem Reps.set : ∀ {ps : List PV} {vs : List V} {p : PV} {v : V} (i : Nat), Rep K F p v → Reps K F ps vs → Reps K F (ps.set i p) (vs.set i v)
  | [], vs, p, v, i, a, b => by rw [b.inv0]; simpa using Reps.nil
  | q :: ps, vs, p, v, 0, a, b => by
    obtain ⟨w, r, rfl, x, y⟩ := b.inv
    exact Reps.cons a y
  | q :: ps, vs, p, v, i + 1, a, b => by
    obtain ⟨w, r, rfl, x, y⟩ := b.inv
    exact Reps.cons x (Reps.set i a y)
theorem Reps.take : ∀ {ps : List PV} {vs : List V} (n : Nat), Reps K F ps vs → Reps K F (ps.take n) (vs.take n)
  | ps, vs, 0, a => by simpa using Reps.nil
  | [], vs, n + 1, a => by rw [a.inv0]; exact Reps.nil
  | q :: ps, vs, n + 1, a => by
    obtain ⟨w, r, rfl, x, y⟩ := a.inv
    exact Reps.cons x (Reps.take n y)
theorem Reps.drop : ∀ {ps : List PV} {vs : List V} (n : Nat), Reps K F ps vs → Reps K F (ps.drop n) (vs.drop n)
  | ps, vs, 0, a => by simpa using a
  | [], vs, n + 1, a => by rw [a.inv0]; exact Reps.nil
  | q :: ps, vs, n + 1, a => by
    obtain ⟨w, r, rfl, x, y⟩ := a.inv
    simpa using Reps.drop n y
theorem Reps.reverse : ∀ {ps : List PV} {vs : List V}, Reps K F ps vs → Reps K F ps.reverse vs.reverse
  | [], vs, a => by rw [a.inv0]; exact Reps.nil
  | q :: ps, vs, a => by
    obtain ⟨w, r, rfl, x, y⟩ := a.inv
    simpa using Reps.append (Reps.reverse y) (Reps.cons x Reps.nil)
theorem Reps.rep {ps : List PV} {vs : List V} (h : Reps K F ps vs) : ∀ k : Nat, Reps K F (List.replicate k ps).flatten (List.replicate k vs).flatten
  | 0 => by simpa using Reps.nil
  | k + 1 => by
    simp only [List.replicate_succ, List.flatten_cons]
    exact Reps.append h (Reps.rep h k)
theorem Reps.dropLast {ps : List PV} {vs : List V} (h : Reps K F ps vs) : Reps K F ps.dropLast vs.dropLast := by
  rw [List.dropLast_eq_take, List.dropLast_eq_take, h.length]
  exact h.take _
theorem Reps.ints : ∀ {ns : List Int} {vs : List V}, Reps K F (ns.map .int) vs ↔ vs = ns.map V.int
  | [], vs => by simp [Reps]
  | n :: ns, vs => by
    constructor
    · intro h
      obtain ⟨v, r, rfl, x, y⟩ := Reps.inv h
      unfold Rep at x
      rw [x, Reps.ints.mp y]; rfl
    · intro h
      subst h
      exact Reps.cons (by unfold Rep; rfl) (Reps.ints.mpr rfl)
theorem Rep.int {i : Int} : Rep K F (.int i) (.int i) := by unfold Rep; rfl
theorem Rep.bl {b : Bool} : Rep K F (.bl b) (.bl b) := by unfold Rep; rfl
theorem Rep.str {x : Str} : Rep K F (.str x) (.str x) := by unfold Rep; rfl
theorem Rep.non : Rep K F .non .non := by unfold Rep; rfl
end

/-! ### the environment: what a slot is known to hold -/
inductive Slot where
  | emp | val (p : PV) | own (xs : List PV)
abbrev Rho := List Slot

structure Exc where
  cls : Str
  fs : List Str
  args : List PV

inductive Res (α : Type) where
  | ok (a : α) | exc (x : Exc) (ρ : Rho) | bad
def Res.bnd {α β : Type} (r : Res (α × Rho)) (f : α → Rho → Res β) : Res β := match r with
  | .ok (a, ρ) => f a ρ | .exc x ρ => .exc x ρ | .bad => .bad
@[simp] theorem Res.bnd_ok {α β : Type} (a : α) (ρ : Rho) (f : α → Rho → Res β) : (Res.ok (a, ρ)).bnd f = f a ρ := rfl
@[simp] theorem Res.bnd_exc {α β : Type} (x : Exc) (ρ : Rho) (f : α → Rho → Res β) : (Res.exc x ρ : Res (α × Rho)).bnd f = .exc x ρ := rfl
@[simp] theorem Res.bnd_bad {α β : Type} (f : α → Rho → Res β) : (Res.bad : Res (α × Rho)).bnd f = .bad := rfl
/-- of an answer, with the environment as it is -/
def Res.of {α : Type} (o : Option α) (ρ : Rho) : Res (α × Rho) := match o with
  | some a => .ok (a, ρ) | none => .bad
@[simp] theorem Res.of_some {α : Type} (a : α) (ρ : Rho) : Res.of (some a) ρ = .ok (a, ρ) := rfl
@[simp] theorem Res.of_none {α : Type} (ρ : Rho) : Res.of (none : Option α) ρ = .bad := rfl

abbrev M := Rho → Res (PV × Rho)
abbrev MT := Rho → Res (Bool × Rho)
abbrev MA := Rho → Res (List PV × Rho)
/-- a mirror that gives a new list of one's own -/
abbrev MF := Rho → Res (List PV × Rho)

structure Good (K : PySem.W.Frag) (F : Hp) (ρ : Rho) (σ : St) (H : Hp) : Prop where
  sub : Same F H
  len : ρ.length = σ.length
  val : ∀ (i : Nat) p, ρ[i]? = some (.val p) → ∃ v, σ[i]? = some (some v) ∧ Rep K F p v
  own : ∀ (i : Nat) xs, ρ[i]? = some (.own xs) → ∃ a vs, σ[i]? = some (some (.ref a)) ∧ F a = none ∧ H a = some (.lst vs) ∧ Reps K F xs vs
  apart : ∀ (i j : Nat) xs ys a, ρ[i]? = some (.own xs) → ρ[j]? = some (.own ys) → σ[i]? = some (some (.ref a)) → σ[j]? = some (some (.ref a)) → i = j

/-- not at an own slot -/
def NotOwn (ρ : Rho) (σ : St) (q : Addr) : Prop := ∀ (i : Nat) xs, ρ[i]? = some (.own xs) → σ[i]? ≠ some (some (.ref q))

structure Stp (σ : St) (F : Hp) (ρ : Rho) (H F' : Hp) (ρ' : Rho) (H' : Hp) : Prop where
  ff : Same F F'
  os : ∀ (i : Nat) xs, ρ'[i]? = some (.own xs) → ∃ ys, ρ[i]? = some (.own ys)
  kp : ∀ q o, H q = some o → NotOwn ρ σ q → H' q = some o
  nf : ∀ q o, H q = some o → F q = none → NotOwn ρ σ q → F' q = none
  ex : ∀ q, H' q = none → H q = none
section
variable {K : PySem.W.Frag} {σ : St} {F F1 F2 F' H H1 H2 H' : Hp} {ρ ρ1 ρ2 ρ' : Rho}
theorem Stp.refl : Stp σ F ρ H F ρ H := ⟨Same.refl _, fun _ xs h => ⟨xs, h⟩, fun _ _ h _ => h, fun _ _ _ h _ => h, fun _ h => h⟩
theorem NotOwn.sub {q : Addr} (h : NotOwn ρ σ q) (os : ∀ (i : Nat) xs, ρ'[i]? = some (.own xs) → ∃ ys, ρ[i]? = some (.own ys)) : NotOwn ρ' σ q := fun i xs e => by
  obtain ⟨ys, e'⟩ := os i xs e
  exact h i ys e'
theorem Stp.trans (a : Stp σ F ρ H F1 ρ1 H1) (b : Stp σ F1 ρ1 H1 F2 ρ2 H2) : Stp σ F ρ H F2 ρ2 H2 :=
  ⟨a.ff.trans b.ff, fun i xs e => by obtain ⟨ys, e'⟩ := b.os i xs e; exact a.os i ys e', fun q o e n => b.kp q o (a.kp q o e n) (n.sub a.os), fun q o e f n => b.nf q o (a.kp q o e n) (a.nf q o e f n) (n.sub a.os), fun q h => a.ex q (b.ex q h)⟩
theorem Same.upd {G : Hp} {p : Addr} {o : HO} (h : G p = none) : Same G (upd G p o) := fun b x e => by
  rw [upd_ne (ne_of_none e h)]; exact e
theorem Good.fnone {p : Addr} (g : Good K F ρ σ H) (h : H p = none) : F p = none := g.sub.free h
/-- a new object, known for good -/
theorem Good.alloc {p : Addr} {o : HO} (g : Good K F ρ σ H) (h : H p = none) : Good K (upd F p o) ρ σ (upd H p o) := by
  have f := g.fnone h
  have sF : Same F (L2.upd F p o) := Same.upd f
  refine ⟨fun b x e => ?_, g.len, fun i q e => ?_, fun i xs e => ?_, g.apart⟩
  · by_cases hb : b = p
    · subst hb; rw [upd_same] at e ⊢; exact e
    · rw [upd_ne hb] at e ⊢; exact g.sub b x e
  · obtain ⟨v, e1, e2⟩ := g.val i q e
    exact ⟨v, e1, Rep.mono sF _ _ e2⟩
  · obtain ⟨a, vs, e1, e2, e3, e4⟩ := g.own i xs e
    have ne : a ≠ p := ne_of_none e3 h
    exact ⟨a, vs, e1, by rw [upd_ne ne]; exact e2, by rw [upd_ne ne]; exact e3, Reps.mono sF _ _ e4⟩
theorem Stp.alloc {p : Addr} {o : HO} (g : Good K F ρ σ H) (h : H p = none) : Stp σ F ρ H (upd F p o) ρ (upd H p o) :=
  ⟨Same.upd (g.fnone h), fun _ xs e => ⟨xs, e⟩, fun q x e _ => by rw [upd_ne (ne_of_none e h)]; exact e, fun q x e f _ => by rw [upd_ne (ne_of_none e h)]; exact f, fun q e => by
    by_cases z : q = p
    · rw [z]; exact h
    · rw [upd_ne z] at e; exact e⟩
/-- a new object, not known for good -/
theorem Good.lay {p : Addr} {o : HO} (g : Good K F ρ σ H) (h : H p = none) : Good K F ρ σ (upd H p o) := by
  refine ⟨fun b x e => ?_, g.len, g.val, fun i xs e => ?_, g.apart⟩
  · have := g.sub b x e
    rw [upd_ne (ne_of_none this h)]; exact this
  · obtain ⟨a, vs, e1, e2, e3, e4⟩ := g.own i xs e
    exact ⟨a, vs, e1, e2, by rw [upd_ne (ne_of_none e3 h)]; exact e3, e4⟩
theorem Stp.lay {p : Addr} {o : HO} (h : H p = none) : Stp σ F ρ H F ρ (upd H p o) :=
  ⟨Same.refl _, fun _ xs e => ⟨xs, e⟩, fun q x e _ => by rw [upd_ne (ne_of_none e h)]; exact e, fun _ _ _ f _ => f, fun q e => by
    by_cases z : q = p
    · rw [z]; exact h
    · rw [upd_ne z] at e; exact e⟩
/-- what stands at p, not at an own slot, is known for good from now on -/
theorem Good.freeze {p : Addr} {o : HO} (g : Good K F ρ σ H) (h : H p = some o) (hf : F p = none) (n : NotOwn ρ σ p) : Good K (upd F p o) ρ σ H := by
  have sF : Same F (L2.upd F p o) := Same.upd hf
  refine ⟨fun b x e => ?_, g.len, fun i q e => ?_, fun i xs e => ?_, g.apart⟩
  · by_cases hb : b = p
    · subst hb; rw [upd_same] at e; rw [h]; exact e
    · rw [upd_ne hb] at e; exact g.sub b x e
  · obtain ⟨v, e1, e2⟩ := g.val i q e
    exact ⟨v, e1, Rep.mono sF _ _ e2⟩
  · obtain ⟨a, vs, e1, e2, e3, e4⟩ := g.own i xs e
    have ne : a ≠ p := fun z => n i xs e (by rw [e1, z])
    exact ⟨a, vs, e1, by rw [upd_ne ne]; exact e2, e3, Reps.mono sF _ _ e4⟩
theorem get_set {α : Type} {l : List α} {i j : Nat} {x y : α} (h : (l.set i x)[j]? = some y) : (i = j ∧ x = y) ∨ (i ≠ j ∧ l[j]? = some y) := by
  by_cases e : i = j
  · subst e
    rw [List.getElem?_set] at h
    simp at h
    exact .inl ⟨rfl, h.2⟩
  · rw [List.getElem?_set_ne e] at h
    exact .inr ⟨e, h⟩
/-- an own slot is known for good from now on -/
theorem Good.frzSlot {i : Nat} {xs : List PV} (g : Good K F ρ σ H) (h : ρ[i]? = some (.own xs)) : ∃ a vs, σ[i]? = some (some (.ref a)) ∧ Good K (upd F a (.lst vs)) (ρ.set i (.val (.lst xs))) σ H ∧
    Stp σ F ρ H (upd F a (.lst vs)) (ρ.set i (.val (.lst xs))) H ∧ Rep K (upd F a (.lst vs)) (.lst xs) (.ref a) := by
  obtain ⟨a, vs, e1, e2, e3, e4⟩ := g.own i xs h
  have sF : Same F (L2.upd F a (.lst vs)) := Same.upd e2
  have rp : Rep K (L2.upd F a (.lst vs)) (.lst xs) (.ref a) := by
    unfold Rep
    exact ⟨a, vs, rfl, upd_same, Reps.mono sF _ _ e4⟩
  refine ⟨a, vs, e1, ⟨fun b x e => ?_, by rw [List.length_set]; exact g.len, fun j q e => ?_, fun j ys e => ?_, fun j k ys zs b e1' e2' e3' e4' => ?_⟩, ⟨sF, fun j ys e => ?_, fun _ _ q _ => q, fun q o e f n => ?_, fun _ h => h⟩, rp⟩
  · by_cases hb : b = a
    · subst hb; rw [upd_same] at e; rw [e3]; exact e
    · rw [upd_ne hb] at e; exact g.sub b x e
  · rcases get_set e with ⟨rfl, z⟩ | ⟨_, z⟩
    · cases z
      exact ⟨_, e1, rp⟩
    · obtain ⟨v, f1, f2⟩ := g.val j q z
      exact ⟨v, f1, Rep.mono sF _ _ f2⟩
  · rcases get_set e with ⟨rfl, z⟩ | ⟨ne, z⟩
    · cases z
    · obtain ⟨b, ws, f1, f2, f3, f4⟩ := g.own j ys z
      have nb : b ≠ a := fun q => ne (g.apart i j xs ys a h z e1 (by rw [f1, q]))
      exact ⟨b, ws, f1, by rw [upd_ne nb]; exact f2, f3, Reps.mono sF _ _ f4⟩
  · rcases get_set e1' with ⟨rfl, z⟩ | ⟨_, z⟩
    · cases z
    · rcases get_set e2' with ⟨rfl, z'⟩ | ⟨_, z'⟩
      · cases z'
      · exact g.apart j k ys zs b z z' e3' e4'
  · rcases get_set e with ⟨rfl, z⟩ | ⟨_, z⟩
    · cases z
    · exact ⟨ys, z⟩
  · have nq : q ≠ a := fun z => n i xs h (by rw [e1, z])
    rw [upd_ne nq]; exact f
/-- an own list is changed -/
theorem Good.write {i : Nat} {xs ys : List PV} {a : Addr} {us : List V} (g : Good K F ρ σ H) (h : ρ[i]? = some (.own xs)) (hs : σ[i]? = some (some (.ref a))) (r : Reps K F ys us) :
    Good K F (ρ.set i (.own ys)) σ (upd H a (.lst us)) ∧ Stp σ F ρ H F (ρ.set i (.own ys)) (upd H a (.lst us)) := by
  obtain ⟨a', vs, e1, e2, e3, e4⟩ := g.own i xs h
  rw [hs] at e1; cases e1
  have hi : i < ρ.length := by
    by_cases z : i < ρ.length
    · exact z
    · rw [List.getElem?_eq_none (by omega)] at h; cases h
  refine ⟨⟨fun b x e => ?_, by rw [List.length_set]; exact g.len, fun j q e => ?_, fun j zs e => ?_, fun j k zs ws b f1 f2 f3 f4 => ?_⟩, ⟨Same.refl _, fun j zs e => ?_, fun q o e n => ?_, fun _ _ _ f _ => f, fun q e => ?_⟩⟩
  · have nb : b ≠ a := fun z => by rw [z, e2] at e; cases e
    rw [upd_ne nb]; exact g.sub b x e
  · rcases get_set e with ⟨rfl, z⟩ | ⟨_, z⟩
    · cases z
    · exact g.val j q z
  · rcases get_set e with ⟨rfl, z⟩ | ⟨ne, z⟩
    · cases z
      exact ⟨a, us, hs, e2, upd_same, r⟩
    · obtain ⟨b, ws, f1, f2, f3, f4⟩ := g.own j zs z
      have nb : b ≠ a := fun q => ne (g.apart i j xs zs a h z hs (by rw [f1, q]))
      exact ⟨b, ws, f1, f2, by rw [upd_ne nb]; exact f3, f4⟩
  · have get : ∀ {m : Nat} {us' : List PV}, (ρ.set i (.own ys))[m]? = some (.own us') → ∃ us'', ρ[m]? = some (.own us'') := fun {m us'} e => by
      rcases get_set e with ⟨rfl, z⟩ | ⟨_, z⟩
      · exact ⟨xs, h⟩
      · exact ⟨_, z⟩
    obtain ⟨z1, q1⟩ := get f1
    obtain ⟨z2, q2⟩ := get f2
    exact g.apart j k z1 z2 b q1 q2 f3 f4
  · rcases get_set e with ⟨rfl, z⟩ | ⟨_, z⟩
    · exact ⟨xs, h⟩
    · exact ⟨zs, z⟩
  · have nq : q ≠ a := fun z => n i xs h (by rw [hs, z])
    rw [upd_ne nq]; exact e
  · by_cases z : q = a
    · rw [z, upd_same] at e; cases e
    · rw [upd_ne z] at e; exact e
end

/-! ### exceptions -/
def ExcAt (K : PySem.W.Frag) (mg : Str → Option Value) (F : Hp) (x : Exc) (cls : Value) (d : Option Addr) : Prop :=
  ∃ C, mg x.cls = some (.ref C) ∧ cls = .ref C ∧
    (match x.fs with
     | [] => d = none
     | _ => ∃ da vs, d = some da ∧ F da = some (.xd (x.fs.zip vs)) ∧ Reps K F x.args vs)

/-! ### what is wanted behind a mirror's answer -/
/-- how an answer lies in the heap: F what is known for good, then the environment and the heap -/
abbrev RepT (α β : Type) := Hp → Hp → Rho → Hp → α → β → Prop
def repE (K : PySem.W.Frag) : RepT PV V := fun _ F _ _ p v => Rep K F p v
def repA (K : PySem.W.Frag) : RepT (List PV) (List V) := fun _ F _ _ p v => Reps K F p v
def repT : RepT Bool Bool := fun _ _ _ _ b c => b = c
/-- a new list, not yet anybody's -/
def repF (K : PySem.W.Frag) (σ : St) : RepT (List PV) V := fun H0 F ρ H xs v => ∃ p vs, v = .ref p ∧ H0 p = none ∧ F p = none ∧ NotOwn ρ σ p ∧ H p = some (.lst vs) ∧ Reps K F xs vs
class RepM {α β : Type} (rep : RepT α β) : Prop where
  mono : ∀ (H H1 F : Hp) (ρ : Rho) (H' : Hp) (p : α) (v : β), (∀ q, H1 q = none → H q = none) → rep H1 F ρ H' p v → rep H F ρ H' p v
instance (K : PySem.W.Frag) : RepM (repE K) := ⟨fun _ _ _ _ _ _ _ _ h => h⟩
instance (K : PySem.W.Frag) : RepM (repA K) := ⟨fun _ _ _ _ _ _ _ _ h => h⟩
instance : RepM repT := ⟨fun _ _ _ _ _ _ _ _ h => h⟩
instance (K : PySem.W.Frag) (σ : St) : RepM (repF K σ) := ⟨fun _ _ _ _ _ _ _ k ⟨p, vs, a, b, c⟩ => ⟨p, vs, a, k p b, c⟩⟩
def Post {α β : Type} (rep : RepT α β) (X : Cx) (W : WX) (F : Hp) (ρ : Rho) (σ : St) (H : Hp) (r : Res (α × Rho)) (Q : β → Hp → Prop) : Prop := match r with
  | .ok (p, ρ') => ∀ F' H' v, Stp σ F ρ H F' ρ' H' → Good X.K F' ρ' σ H' → rep H F' ρ' H' p v → Q v H'
  | .exc x ρ' => ∀ F' H' cls d, Stp σ F ρ H F' ρ' H' → Good X.K F' ρ' σ H' → ExcAt X.K X.mg F' x cls d → W cls d σ H'
  | .bad => False
theorem Post.next {α β : Type} {rep : RepT α β} [RepM rep] {X : Cx} {W : WX} {F F1 : Hp} {ρ ρ1 : Rho} {σ : St} {H H1 : Hp} {r : Res (α × Rho)} {Q : β → Hp → Prop} (st : Stp σ F ρ H F1 ρ1 H1) (h : Post rep X W F ρ σ H r Q) : Post rep X W F1 ρ1 σ H1 r Q := by
  match r, h with
  | .ok (p, ρ'), h => exact fun F' H' v s g q => h F' H' v (st.trans s) g (RepM.mono _ _ _ _ _ _ _ st.ex q)
  | .exc x ρ', h => exact fun F' H' cls d s g q => h F' H' cls d (st.trans s) g q
theorem Post.imp {α β : Type} {rep : RepT α β} {X : Cx} {W : WX} {F : Hp} {ρ : Rho} {σ : St} {H : Hp} {r : Res (α × Rho)} {Q Q' : β → Hp → Prop} (h : Post rep X W F ρ σ H r Q) (k : ∀ v H, Q v H → Q' v H) : Post rep X W F ρ σ H r Q' := by
  match r, h with
  | .ok (p, ρ'), h => exact fun F' H' v s g q => k _ _ (h F' H' v s g q)
  | .exc x ρ', h => exact h
/-- one thing, then another -/
theorem Post.bind {α β α' β' : Type} {rep : RepT α β} {rep' : RepT α' β'} [RepM rep'] {X : Cx} {W : WX} {F : Hp} {ρ : Rho} {σ : St} {H : Hp} {r : Res (α × Rho)} {f : α → Rho → Res (α' × Rho)} {Q' : β' → Hp → Prop} {R : β → Hp → Prop}
    (hp : Post rep' X W F ρ σ H (r.bnd f) Q')
    (k : ∀ F1 ρ1 H1 p v, Stp σ F ρ H F1 ρ1 H1 → Good X.K F1 ρ1 σ H1 → rep H F1 ρ1 H1 p v → Post rep' X W F1 ρ1 σ H1 (f p ρ1) Q' → R v H1) : Post rep X W F ρ σ H r R := by
  match r, hp with
  | .ok (p, ρ1), hp => exact fun F1 H1 v st g rp => k F1 ρ1 H1 p v st g rp (Post.next st hp)
  | .exc x ρ', h => exact h

/-- an expression, by what it comes to -/
@[irreducible] def WE (X : Cx) (e : Expr) : TE := fun σ H Q => ∀ (pins : List (Addr × Obj)) (s : Shared), Inv X pins σ H s → wpAny (model X.prog X.w) X.A (eval e X.env) (EP X pins σ Q) X.xe s
@[irreducible] def WT (X : Cx) (e : Expr) : TT := fun σ H Q => ∀ (pins : List (Addr × Obj)) (s : Shared), Inv X pins σ H s → wpAny (model X.prog X.w) X.A (isTrue e X.env (eval e X.env)) (TP X pins σ Q) X.xe s
@[irreducible] def WA (X : Cx) (es : List Expr) : TA := fun σ H Q => ∀ (pos : Pos) (pins : List (Addr × Obj)) (s : Shared), Inv X pins σ H s → wpAny (model X.prog X.w) X.A (spliced (backTo pos (starEach es X.env))) (AP X pins σ Q) X.xe s
section
variable {X : Cx} {e : Expr} {es : List Expr}
theorem pe_we : PE X e (WE X e) := ⟨fun pins s _ _ _ I h => by unfold WE at h; exact h pins s I⟩
theorem pt_wt : PT X e (WT X e) := ⟨fun pins s _ _ _ I h => by unfold WT at h; exact h pins s I⟩
theorem pa_wa : PA X es (WA X es) := ⟨fun pos pins s _ _ _ I h => by unfold WA at h; exact h pos pins s I⟩
theorem we_of {t : TE} {σ : St} {H : Hp} {Q : VK} (p : PE X e t) (h : t σ H Q) : WE X e σ H Q := by unfold WE; exact fun pins s I => p.run pins s σ H Q I h
theorem wt_of {t : TT} {σ : St} {H : Hp} {Q : Bool → Hp → Prop} (p : PT X e t) (h : t σ H Q) : WT X e σ H Q := by unfold WT; exact fun pins s I => p.run pins s σ H Q I h
theorem wa_of {t : TA} {σ : St} {H : Hp} {Q : List V → Hp → Prop} (p : PA X es t) (h : t σ H Q) : WA X es σ H Q := by unfold WA; exact fun pos pins s I => p.run pos pins s σ H Q I h
end
/-- m is what e comes to -/
def SndE (X : Cx) (W : WX) (e : Expr) (m : M) : Prop :=
  ∀ (F : Hp) (ρ : Rho) (σ : St) (H : Hp) (Q : VK), Good X.K F ρ σ H → Post (repE X.K) X W F ρ σ H (m ρ) Q → WE X e σ H Q
def SndT (X : Cx) (W : WX) (e : Expr) (m : MT) : Prop :=
  ∀ (F : Hp) (ρ : Rho) (σ : St) (H : Hp) (Q : Bool → Hp → Prop), Good X.K F ρ σ H → Post repT X W F ρ σ H (m ρ) Q → WT X e σ H Q
def SndA (X : Cx) (W : WX) (es : List Expr) (m : MA) : Prop :=
  ∀ (F : Hp) (ρ : Rho) (σ : St) (H : Hp) (Q : List V → Hp → Prop), Good X.K F ρ σ H → Post (repA X.K) X W F ρ σ H (m ρ) Q → WA X es σ H Q
def SndF (X : Cx) (W : WX) (e : Expr) (m : MF) : Prop :=
  ∀ (F : Hp) (ρ : Rho) (σ : St) (H : Hp) (Q : VK), Good X.K F ρ σ H → Post (repF X.K σ) X W F ρ σ H (m ρ) Q → WE X e σ H Q
section
variable {X : Cx} {W : WX} {a b e : Expr} {F : Hp} {ρ : Rho} {σ : St} {H : Hp} {α' β' : Type} {rep' : RepT α' β'} [RepM rep'] {Q' : β' → Hp → Prop}
theorem SndE.then {m : M} {f : PV → Rho → Res (α' × Rho)} {R : VK} (ha : SndE X W a m) (g : Good X.K F ρ σ H) (hp : Post rep' X W F ρ σ H ((m ρ).bnd f) Q')
    (k : ∀ F1 ρ1 H1 p v, Stp σ F ρ H F1 ρ1 H1 → Good X.K F1 ρ1 σ H1 → Rep X.K F1 p v → Post rep' X W F1 ρ1 σ H1 (f p ρ1) Q' → R v H1) : WE X a σ H R :=
  ha F ρ σ H R g (Post.bind hp k)
theorem SndT.then {m : MT} {f : Bool → Rho → Res (α' × Rho)} {R : Bool → Hp → Prop} (ha : SndT X W a m) (g : Good X.K F ρ σ H) (hp : Post rep' X W F ρ σ H ((m ρ).bnd f) Q')
    (k : ∀ F1 ρ1 H1 c, Stp σ F ρ H F1 ρ1 H1 → Good X.K F1 ρ1 σ H1 → Post rep' X W F1 ρ1 σ H1 (f c ρ1) Q' → R c H1) : WT X a σ H R :=
  ha F ρ σ H R g (Post.bind hp fun F1 ρ1 H1 p v st g e hq => by cases e; exact k F1 ρ1 H1 _ st g hq)
theorem SndA.then {es : List Expr} {m : MA} {f : List PV → Rho → Res (α' × Rho)} {R : List V → Hp → Prop} (ha : SndA X W es m) (g : Good X.K F ρ σ H) (hp : Post rep' X W F ρ σ H ((m ρ).bnd f) Q')
    (k : ∀ F1 ρ1 H1 p v, Stp σ F ρ H F1 ρ1 H1 → Good X.K F1 ρ1 σ H1 → Reps X.K F1 p v → Post rep' X W F1 ρ1 σ H1 (f p ρ1) Q' → R v H1) : WA X es σ H R :=
  ha F ρ σ H R g (Post.bind hp k)
theorem SndF.then {m : MF} {f : List PV → Rho → Res (α' × Rho)} {R : VK} (ha : SndF X W a m) (g : Good X.K F ρ σ H) (hp : Post rep' X W F ρ σ H ((m ρ).bnd f) Q')
    (k : ∀ F1 ρ1 H1 xs v, Stp σ F ρ H F1 ρ1 H1 → Good X.K F1 ρ1 σ H1 → repF X.K σ H F1 ρ1 H1 xs v → Post rep' X W F1 ρ1 σ H1 (f xs ρ1) Q' → R v H1) : WE X a σ H R :=
  ha F ρ σ H R g (Post.bind hp k)
/-- the answer is there, nothing else has changed -/
theorem Post.here {α β : Type} {rep : RepT α β} {o : Option α} {p : α} {v : β} {Q : β → Hp → Prop} (hp : Post rep X W F ρ σ H (Res.of o ρ) Q) (e : o = some p) (g : Good X.K F ρ σ H) (r : rep H F ρ H p v) : Q v H := by
  subst e
  exact hp F H v Stp.refl g r
theorem Post.some {α β : Type} {rep : RepT α β} {o : Option α} {Q : β → Hp → Prop} (hp : Post rep X W F ρ σ H (Res.of o ρ) Q) : ∃ p, o = some p := by
  cases o with
  | none => exact hp.elim
  | some p => exact ⟨p, rfl⟩
end
/-- a new list taken as a value -/
def mFrz (m : MF) : M := fun ρ => (m ρ).bnd fun xs ρ' => .ok (.lst xs, ρ')
theorem SndF.snd {X : Cx} {W : WX} {e : Expr} {m : MF} (h : SndF X W e m) : SndE X W e (mFrz m) := fun F ρ σ H Q g hp => by
  unfold mFrz at hp
  refine h F ρ σ H Q g ?_
  match hm : m ρ, hp with
  | .exc x ρ', hp => exact hp
  | .ok (xs, ρ'), hq0 =>
  intro F' H' v st g' rf
  obtain ⟨p, vs, rfl, hn, hf, no, hv, rv⟩ := rf
  have sF : Same F' (L2.upd F' p (.lst vs)) := Same.upd hf
  refine hq0 (L2.upd F' p (.lst vs)) H' (.ref p) ⟨st.ff.trans sF, st.os, st.kp, fun q o e f n => ?_, st.ex⟩ (g'.freeze hv hf no) ?_
  · rw [upd_ne (ne_of_none e hn)]; exact st.nf q o e f n
  show Rep _ _ _ _
  unfold Rep
  exact ⟨p, vs, rfl, upd_same, Reps.mono sF _ _ rv⟩
end Ev

set_option Elab.async false
set_option linter.all false
set_option maxRecDepth 100000
namespace Ev
open PySem L2
section
variable {X : Cx} {W : WX} {pos : Pos}
/-! ### names, constants -/
def mName (i : Nat) : M := fun ρ => match ρ[i]? with
  | some (.val p) => .ok (p, ρ)
  | some (.own xs) => .ok (.lst xs, ρ.set i (.val (.lst xs)))
  | _ => .bad
theorem s_name {x : Str} (i : Nat) (h : PE X (.Name x pos) (tVar i)) : SndE X W (.Name x pos) (mName i) := fun F ρ σ H Q g hp => by
  refine we_of h ?_
  unfold mName at hp
  split at hp
  · rename_i p e
    obtain ⟨v, e1, e2⟩ := g.val i p e
    exact ⟨v, e1, hp F H v Stp.refl g e2⟩
  · rename_i xs e
    obtain ⟨a, vs, e1, g', st, rp⟩ := g.frzSlot e
    exact ⟨.ref a, e1, hp _ H _ st g' rp⟩
  · exact hp.elim
def mC (p : PV) : M := fun ρ => .ok (p, ρ)
theorem s_const {e : Expr} {v : V} {p : PV} (h : PE X e (tC v)) (r : ∀ F, Rep X.K F p v) : SndE X W e (mC p) := fun F ρ σ H Q g hp =>
  we_of h (show Q v H from hp F H v Stp.refl g (r F))
theorem s_int {i : Int} {j pos} : SndE X W (.Constant (.int i) j pos) (mC (.int i)) := s_const pe_int fun _ => Rep.int
theorem s_str {x : Str} {j pos} : SndE X W (.Constant (.str x) j pos) (mC (.str x)) := s_const pe_str fun _ => Rep.str
theorem s_bl {b : Bool} {j pos} : SndE X W (.Constant (.bool b) j pos) (mC (.bl b)) := s_const pe_bl fun _ => Rep.bl
theorem s_non {j pos} : SndE X W (.Constant .none j pos) (mC .non) := s_const pe_non fun _ => Rep.non
theorem s_gint {x : Str} {i : Int} (hg : Gl X x) (hm : ∃ t, X.mg x = some (.int i t)) (hd : (x == ("__debug__" : Str)) = false := by decide) : SndE X W (.Name x pos) (mC (.int i)) := by
  obtain ⟨t, hm⟩ := hm
  exact s_const (pe_glob (v := .int i) hg hm ⟨t, rfl⟩ hd) fun _ => Rep.int
theorem s_gstr {x y : Str} (hg : Gl X x) (hm : ∃ t, X.mg x = some (.str y t)) (hd : (x == ("__debug__" : Str)) = false := by decide) : SndE X W (.Name x pos) (mC (.str y)) := by
  obtain ⟨t, hm⟩ := hm
  exact s_const (pe_glob (v := .str y) hg hm ⟨t, rfl⟩ hd) fun _ => Rep.str
theorem s_ty {x : Str} {n : String} (hg : Gl X x) (hm : X.mg x = none) (hv : bootBuiltins x = some (.type n)) (hn : x ≠ "__name__" := by decide) (hd : (x == ("__debug__" : Str)) = false := by decide) : SndE X W (.Name x pos) (mC (.ty n)) :=
  s_const (pe_bltn (v := .ty n) hg hm hv rfl hn hd) fun _ => by unfold Rep; rfl

/-! ### two-place operations -/
def m2 (op : PV → PV → Option PV) (a b : M) : M := fun ρ => (a ρ).bnd fun p ρ1 => (b ρ1).bnd fun q ρ2 => Res.of (op p q) ρ2
/-- an operation's reading serves what op tells -/
def Op2 (X : Cx) (W : WX) (r : R2) (op : PV → PV → Option PV) : Prop :=
  ∀ (F : Hp) (ρ : Rho) (σ : St) (H : Hp) (x y : V) (p q z : PV) (Q : VK), Good X.K F ρ σ H → Rep X.K F p x → Rep X.K F q y → op p q = some z → Post (repE X.K) X W F ρ σ H (.ok (z, ρ)) Q → r x y H Q
theorem s_two {a b e : Expr} {ma mb : M} {op : PV → PV → Option PV} {r : R2} (hpe : PE X e (tOp r (WE X a) (WE X b))) (h2 : Op2 X W r op) (ha : SndE X W a ma) (hb : SndE X W b mb) : SndE X W e (m2 op ma mb) := fun F ρ σ H Q g hp => by
  refine we_of hpe ?_
  refine ha.then g hp fun F1 ρ1 H1 p x _ g1 rp hp1 => ?_
  refine hb.then g1 hp1 fun F2 ρ2 H2 q y st2 g2 rq hp2 => ?_
  obtain ⟨z, ez⟩ := hp2.some
  refine h2 F2 ρ2 σ H2 x y p q z Q g2 (Rep.mono st2.ff _ _ rp) rq ez ?_
  rw [ez] at hp2
  exact hp2
theorem s_bin {a b : Expr} {ma mb : M} {o : Operator} {op : PV → PV → Option PV} {r : R2} (ho : OpR X (binaryOp o) r) (h2 : Op2 X W r op) (ha : SndE X W a ma) (hb : SndE X W b mb) : SndE X W (.BinOp a o b pos) (m2 op ma mb) :=
  s_two (pe_op ho pe_we pe_we) h2 ha hb
theorem s_cmp {a b : Expr} {ma mb : M} {o : CmpOp} {op : PV → PV → Option PV} {r : R2} (ho : OpR X (compareOp o) r) (h2 : Op2 X W r op) (ha : SndE X W a ma) (hb : SndE X W b mb) (hm : behindInMarks o b = false) : SndE X W (.Compare a [o] [b] pos) (m2 op ma mb) :=
  s_two (pe_cmpR ho pe_we pe_we hm) h2 ha hb
theorem OpR.or {f : Value → Value → Sem Value} {r r' : R2} (h : OpR X f r) (h' : OpR X f r') : OpR X f (fun x y H Q => r x y H Q ∨ r' x y H Q) := fun pins s σ H x y v u Q I rx ry z =>
  z.elim (h pins s σ H x y v u Q I rx ry) (h' pins s σ H x y v u Q I rx ry)
theorem Op2.int0 {g : Int → Int → V} {op : PV → PV → Option PV} {k : Int → Int → PV} (hk : ∀ F i j, Rep X.K F (k i j) (g i j)) (h : ∀ p q z, op p q = some z → ∃ i j, p = .int i ∧ q = .int j ∧ z = k i j) : Op2 X W (rI0 g) op := fun F ρ σ H x y p q z Q gd rp rq e hp => by
  obtain ⟨i, j, rfl, rfl, rfl⟩ := h p q z e
  unfold Rep at rp rq
  exact ⟨i, j, rp, rq, hp F H _ Stp.refl gd (hk F i j)⟩
theorem Op2.int {C : Int → Int → Prop} {g : Int → Int → V} {op : PV → PV → Option PV} {k : Int → Int → PV} (hk : ∀ F i j, Rep X.K F (k i j) (g i j)) (h : ∀ p q z, op p q = some z → ∃ i j, p = .int i ∧ q = .int j ∧ C i j ∧ z = k i j) : Op2 X W (rI C g) op := fun F ρ σ H x y p q z Q gd rp rq e hp => by
  obtain ⟨i, j, rfl, rfl, c, rfl⟩ := h p q z e
  unfold Rep at rp rq
  exact ⟨i, j, rp, rq, c, hp F H _ Stp.refl gd (hk F i j)⟩
/-- a new list, a new tuple -/
theorem Post.newL {F H : Hp} {ρ : Rho} {σ : St} {xs : List PV} {vs : List V} {Q : VK} (g : Good X.K F ρ σ H) (hp : Post (repE X.K) X W F ρ σ H (.ok (.lst xs, ρ)) Q) (r : Reps X.K F xs vs) : ∀ p, H p = none → Q (.ref p) (upd H p (.lst vs)) := fun p n => by
  refine hp (L2.upd F p (.lst vs)) _ _ (Stp.alloc g n) (g.alloc n) ?_
  show Rep _ _ _ _
  unfold Rep
  exact ⟨p, vs, rfl, upd_same, Reps.mono (Same.upd (g.fnone n)) _ _ r⟩
theorem Post.newT {F H : Hp} {ρ : Rho} {σ : St} {xs : List PV} {vs : List V} {Q : VK} (g : Good X.K F ρ σ H) (hp : Post (repE X.K) X W F ρ σ H (.ok (.tup xs, ρ)) Q) (r : Reps X.K F xs vs) : ∀ p, H p = none → Q (.ref p) (upd H p (.tup vs)) := fun p n => by
  refine hp (L2.upd F p (.tup vs)) _ _ (Stp.alloc g n) (g.alloc n) ?_
  show Rep _ _ _ _
  unfold Rep
  exact ⟨p, vs, rfl, upd_same, Reps.mono (Same.upd (g.fnone n)) _ _ r⟩

/-! + -/
def pvAdd : PV → PV → Option PV
  | .int i, .int j => some (.int (i + j))
  | .str x, .str y => if x.length + y.length ≤ sizeLine then some (.str (x ++ y)) else none
  | .lst xs, .lst ys => if xs.length + ys.length ≤ sizeLine then some (.lst (xs ++ ys)) else none
  | .tup xs, .tup ys => if xs.length + ys.length ≤ sizeLine then some (.tup (xs ++ ys)) else none
  | _, _ => none
def rAddA (K : PySem.W.Frag) : R2 := fun x y H Q => rI0 (fun i j => .int (i + j)) x y H Q ∨ ((∃ i j, x = .str i ∧ y = .str j ∧ i.length + j.length ≤ sizeLine ∧ Q (.str (i ++ j)) H) ∨ (rCat x y H Q ∨ rCatA K x y H Q))
theorem op_addA : OpR X (binaryOp .Add) (rAddA X.K) := OpR.or op_add (OpR.or op_add_str (OpR.or op_cat op_catA))
theorem add_op2 : Op2 X W (rAddA X.K) pvAdd := fun F ρ σ H x y p q z Q g rp rq e hp => by
  unfold pvAdd at e
  split at e
  · cases e
    unfold Rep at rp rq
    exact .inl ⟨_, _, rp, rq, hp F H _ Stp.refl g Rep.int⟩
  · split at e
    · rename_i hl
      cases e
      unfold Rep at rp rq
      exact .inr (.inl ⟨_, _, rp, rq, hl, hp F H _ Stp.refl g Rep.str⟩)
    · cases e
  · split at e
    · rename_i xs ys hl
      cases e
      unfold Rep at rp rq
      obtain ⟨a, vs, rfl, h1, h2⟩ := rp
      obtain ⟨b, ws, rfl, h3, h4⟩ := rq
      rw [h2.length, h4.length] at hl
      exact .inr (.inr (.inl ⟨a, b, vs, ws, rfl, rfl, g.sub _ _ h1, g.sub _ _ h3, hl, Post.newL g hp (h2.append h4)⟩))
    · cases e
  · split at e
    · rename_i xs ys hl
      cases e
      unfold Rep at rp rq
      obtain ⟨a, vs, rfl, h1, h2⟩ := rp
      obtain ⟨b, ws, rfl, h3, h4⟩ := rq
      rw [h2.length, h4.length] at hl
      refine .inr (.inr (.inr ⟨a, b, vs, ws, rfl, rfl, SqT.of (g.sub _ _ h1), SqT.of (g.sub _ _ h3), hl, fun e0 => ?_, fun _ e0 => ?_, fun _ _ => Post.newT g hp (h2.append h4)⟩))
      · subst e0
        refine hp F H _ Stp.refl g ?_
        have e1 : xs = [] := List.eq_nil_of_length_eq_zero (by rw [h2.length]; rfl)
        subst e1
        show Rep _ _ _ _
        unfold Rep
        exact ⟨b, ws, rfl, h3, h4⟩
      · subst e0
        refine hp F H _ Stp.refl g ?_
        have e1 : ys = [] := List.eq_nil_of_length_eq_zero (by rw [h4.length]; rfl)
        subst e1
        rw [List.append_nil]
        show Rep _ _ _ _
        unfold Rep
        exact ⟨a, vs, rfl, h1, h2⟩
    · cases e
  · cases e
theorem s_add {a b : Expr} {ma mb : M} (ha : SndE X W a ma) (hb : SndE X W b mb) : SndE X W (.BinOp a .Add b pos) (m2 pvAdd ma mb) := s_bin op_addA add_op2 ha hb
/-! - -/
def pvSub : PV → PV → Option PV
  | .int i, .int j => some (.int (i - j))
  | _, _ => none
theorem s_sub {a b : Expr} {ma mb : M} (ha : SndE X W a ma) (hb : SndE X W b mb) : SndE X W (.BinOp a .Sub b pos) (m2 pvSub ma mb) :=
  s_bin op_sub (Op2.int0 (k := fun i j => .int (i - j)) (fun _ _ _ => Rep.int) fun p q z e => by
    unfold pvSub at e; split at e <;> cases e; exact ⟨_, _, rfl, rfl, rfl⟩) ha hb
/-! % // ** -/
def pvMod : PV → PV → Option PV
  | .int i, .int j => if 0 < j then some (.int (i % j)) else none
  | _, _ => none
theorem s_mod {a b : Expr} {ma mb : M} (ha : SndE X W a ma) (hb : SndE X W b mb) : SndE X W (.BinOp a .Mod b pos) (m2 pvMod ma mb) :=
  s_bin op_mod (Op2.int (k := fun i j => .int (i % j)) (fun _ _ _ => Rep.int) fun p q z e => by
    unfold pvMod at e
    split at e
    · split at e
      · rename_i h; cases e; exact ⟨_, _, rfl, rfl, h, rfl⟩
      · cases e
    · cases e) ha hb
def pvDiv : PV → PV → Option PV
  | .int i, .int j => if 0 < j ∧ j < 2 ^ 64 then some (.int (i / j)) else none
  | _, _ => none
theorem cdiv_of {i j : Int} (h : 0 < j ∧ j < 2 ^ 64) : CDivW i j := wide_div (b := 64) h.1 (by omega) (by decide) (by decide)
theorem s_div {a b : Expr} {ma mb : M} (ha : SndE X W a ma) (hb : SndE X W b mb) : SndE X W (.BinOp a .FloorDiv b pos) (m2 pvDiv ma mb) :=
  s_bin op_fdivW (Op2.int (k := fun i j => .int (i / j)) (fun _ _ _ => Rep.int) fun p q z e => by
    unfold pvDiv at e
    split at e
    · split at e
      · rename_i h; cases e; exact ⟨_, _, rfl, rfl, cdiv_of h, rfl⟩
      · cases e
    · cases e) ha hb
def pvPow : PV → PV → Option PV
  | .int i, .int j => if 0 ≤ j ∧ j ≤ 1000 ∧ i.natAbs < 2 ^ 64 then some (.int (i ^ j.toNat)) else none
  | _, _ => none
theorem s_pow {a b : Expr} {ma mb : M} (ha : SndE X W a ma) (hb : SndE X W b mb) : SndE X W (.BinOp a .Pow b pos) (m2 pvPow ma mb) :=
  s_bin op_pow (Op2.int (k := fun i j => .int (i ^ j.toNat)) (fun _ _ _ => Rep.int) fun p q z e => by
    unfold pvPow at e
    split at e
    · split at e
      · rename_i h; cases e; exact ⟨_, _, rfl, rfl, ⟨h.1, by omega, h.2.2⟩, rfl⟩
      · cases e
    · cases e) ha hb
/-! * -/
def smallI (i : Int) : Bool := decide (-(2 ^ 64) < i ∧ i < 2 ^ 64)
/-- a tuple once: itself -/
theorem tuple_once (l : Addr) (items : Array Value) (n : Nat) (dd : Option Addr) (sl : Array (Option Value)) (u : Tok) :
    Meets (Builtin.«tuple.__mul__» ⟨[.ref l, .int 1 u], []⟩) (fun _ R s => s.heap.get? l = some { cls := .type "tuple", dict := dd, data := .seq items n, slots := sl } ∧ R (.ok (.ret (Value.ref l))) s) :=
  .of_wp fun prog w A R s h => by
    obtain ⟨hp, g, d, tk, os⟩ := s
    obtain ⟨hl, h⟩ := h
    have f1 := AutoSeq1.idx_int
    wp_walk using wpAny_loadPart' hl
    have c1 : (items.isEmpty || (1 : Int) == 1) = true := by simp
    repeat (first
      | (refine wpAny_ite_true (decide_eq_true c1) ?_; wp_walk using wpAny_loadPart' hl)
      | (refine wpAny_ite_false (by decide) ?_; wp_walk using wpAny_loadPart' hl))
    exact ⟨_, rfl, h⟩
def rOnce (K : PySem.W.Frag) : R2 := fun x y H Q => ∃ l xs, x = .ref l ∧ y = .int 1 ∧ SqT K H l xs ∧ Q (.ref l) H
theorem op_once {X : Cx} : OpR X (binaryOp .Mult) (rOnce X.K) := by
  intro pins s σ H x y v u Q I rx ry h
  obtain ⟨l, xs, rfl, rfl, hT, q⟩ := h
  cases rx
  obtain ⟨t, rfl⟩ := ry
  obtain ⟨its, r, ⟨⟨cls, dd, data, sl⟩, ho, hc, n, hd⟩, hs⟩ := I.tuple hT
  simp only at hc hd
  subst hc hd
  refine wpAny_binaryOp_repeat_ref (T := "tuple") (U := "int") (by decide) ⟨_, ho, rfl⟩ (fun s' => typeIs_int s' 1 t) noFill_tuple_mul F.fills_int_mul F.slot_int_rmul repeat_tuple F.slot_int_index.lookup
    (call_meets F.slot_int_rmul (typeIs_int s 1 t) F.entry_int_rmul (F.args_int_rmul_2 _ _) (int_rmul_tuple 1 t l its.toArray n dd sl)
      ⟨ho, rfl, ⟨_, ho, rfl⟩, call_meets F.slot_tuple_mul ⟨_, ho, rfl⟩ F.entry_tuple_mul (F.args_tuple_mul_2 _ _) (tuple_once l its.toArray n dd sl t) ⟨ho, ?_⟩⟩)
  exact ⟨.ref l, H, I, rfl, q⟩
def pvMul : PV → PV → Option PV
  | .int i, .int j => if smallI i || smallI j then some (.int (i * j)) else none
  | .lst xs, .int k => if -(2 ^ 63) ≤ k ∧ k < 2 ^ 63 ∧ xs.length * k.toNat ≤ sizeLine then some (.lst (List.replicate k.toNat xs).flatten) else none
  | .tup xs, .int k => if xs ≠ [] ∧ 2 ≤ k ∧ k ≤ 1000 ∧ xs.length ≤ 1000 then some (.tup (List.replicate k.toNat xs).flatten) else if k = 1 then some (.tup xs) else none
  | _, _ => none
theorem mul_op2 : Op2 X W (fun x y H Q => rI CMul (fun i j => .int (i * j)) x y H Q ∨ (rRep x y H Q ∨ (rRepT X.K x y H Q ∨ rOnce X.K x y H Q))) pvMul := fun F ρ σ H x y p q z Q g rp rq e hp => by
  unfold pvMul at e
  split at e
  · split at e
    · rename_i i j h
      cases e
      unfold Rep at rp rq
      refine .inl ⟨_, _, rp, rq, ?_, hp F H _ Stp.refl g Rep.int⟩
      simp only [smallI, Bool.or_eq_true, decide_eq_true_eq] at h
      exact h
    · cases e
  · split at e
    · rename_i xs k h
      cases e
      unfold Rep at rp rq
      obtain ⟨a, vs, rfl, h1, h2⟩ := rp
      subst rq
      exact .inr (.inl ⟨a, k, vs, rfl, rfl, g.sub _ _ h1, h.1, h.2.1, by rw [← h2.length]; exact h.2.2, Post.newL g hp (h2.rep _)⟩)
    · cases e
  · split at e
    · rename_i xs k h
      cases e
      unfold Rep at rp rq
      obtain ⟨a, vs, rfl, h1, h2⟩ := rp
      subst rq
      refine .inr (.inr (.inl ⟨a, k, vs, rfl, rfl, SqT.of (g.sub _ _ h1), fun z => h.1 ?_, h.2.1, h.2.2.1, by rw [← h2.length]; exact h.2.2.2, Post.newT g hp (h2.rep _)⟩))
      subst z
      exact List.eq_nil_of_length_eq_zero (by rw [h2.length]; rfl)
    · split at e
      · rename_i xs k h hk
        cases e
        have rp' := rp
        unfold Rep at rp' rq
        obtain ⟨a, vs, rfl, h1, h2⟩ := rp'
        subst rq hk
        exact .inr (.inr (.inr ⟨a, vs, rfl, rfl, SqT.of (g.sub _ _ h1), hp F H _ Stp.refl g rp⟩))
      · cases e
  · cases e
theorem s_mul {a b : Expr} {ma mb : M} (ha : SndE X W a ma) (hb : SndE X W b mb) : SndE X W (.BinOp a .Mult b pos) (m2 pvMul ma mb) := s_bin (OpR.or op_mul (OpR.or op_rep (OpR.or op_repT op_once))) mul_op2 ha hb

/-! ### comparisons -/
def pvLt : PV → PV → Option PV
  | .int i, .int j => some (.bl (decide (i < j)))
  | _, _ => none
def pvLe : PV → PV → Option PV
  | .int i, .int j => some (.bl (decide (i ≤ j)))
  | _, _ => none
def pvGt : PV → PV → Option PV
  | .int i, .int j => some (.bl (decide (j < i)))
  | _, _ => none
def pvGe : PV → PV → Option PV
  | .int i, .int j => some (.bl (decide (j ≤ i)))
  | _, _ => none
theorem lt_op2 : Op2 X W (rI0 fun i j => .bl (decide (i < j))) pvLt := Op2.int0 (k := fun i j => .bl (decide (i < j))) (fun _ _ _ => Rep.bl) fun p q z e => by
  unfold pvLt at e; split at e <;> cases e; exact ⟨_, _, rfl, rfl, rfl⟩
theorem le_op2 : Op2 X W (rI0 fun i j => .bl (decide (i ≤ j))) pvLe := Op2.int0 (k := fun i j => .bl (decide (i ≤ j))) (fun _ _ _ => Rep.bl) fun p q z e => by
  unfold pvLe at e; split at e <;> cases e; exact ⟨_, _, rfl, rfl, rfl⟩
theorem gt_op2 : Op2 X W (rI0 fun i j => .bl (decide (j < i))) pvGt := Op2.int0 (k := fun i j => .bl (decide (j < i))) (fun _ _ _ => Rep.bl) fun p q z e => by
  unfold pvGt at e; split at e <;> cases e; exact ⟨_, _, rfl, rfl, rfl⟩
theorem ge_op2 : Op2 X W (rI0 fun i j => .bl (decide (j ≤ i))) pvGe := Op2.int0 (k := fun i j => .bl (decide (j ≤ i))) (fun _ _ _ => Rep.bl) fun p q z e => by
  unfold pvGe at e; split at e <;> cases e; exact ⟨_, _, rfl, rfl, rfl⟩
theorem s_lt {a b : Expr} {ma mb : M} (ha : SndE X W a ma) (hb : SndE X W b mb) : SndE X W (.Compare a [.Lt] [b] pos) (m2 pvLt ma mb) := s_cmp op_lt lt_op2 ha hb (nomark _)
theorem s_le {a b : Expr} {ma mb : M} (ha : SndE X W a ma) (hb : SndE X W b mb) : SndE X W (.Compare a [.LtE] [b] pos) (m2 pvLe ma mb) := s_cmp op_le le_op2 ha hb (nomark _)
theorem s_gt {a b : Expr} {ma mb : M} (ha : SndE X W a ma) (hb : SndE X W b mb) : SndE X W (.Compare a [.Gt] [b] pos) (m2 pvGt ma mb) := s_cmp op_gt gt_op2 ha hb (nomark _)
theorem s_ge {a b : Expr} {ma mb : M} (ha : SndE X W a ma) (hb : SndE X W b mb) : SndE X W (.Compare a [.GtE] [b] pos) (m2 pvGe ma mb) := s_cmp op_ge ge_op2 ha hb (nomark _)
/-! is None, is True -/
def pvIs : PV → PV → Option PV
  | .bl a, .bl b => some (.bl (decide (a = b)))
  | .non, .non => some (.bl true)
  | _, .non => some (.bl false)
  | _, _ => none
theorem Rep.notNon {K : PySem.W.Frag} {F : Hp} {p : PV} {v : V} (r : Rep K F p v) (h : p ≠ .non) : v ≠ .non := by
  intro e; subst e
  cases p with
  | non => exact h rfl
  | bl b => unfold Rep at r; cases r
  | int b => unfold Rep at r; cases r
  | str b => unfold Rep at r; cases r
  | ty b => unfold Rep at r; cases r
  | tup xs => unfold Rep at r; obtain ⟨_, _, z, _⟩ := r; cases z
  | lst xs => unfold Rep at r; obtain ⟨_, _, z, _⟩ := r; cases z
  | dic ks xs => unfold Rep at r; obtain ⟨_, _, z, _⟩ := r; cases z
  | scr ns => unfold Rep at r; obtain ⟨_, z, _⟩ := r; cases z
theorem is_op2 : Op2 X W (fun x y H Q => rIsB x y H Q ∨ (y = .non ∧ Q (.bl (decide (x = .non))) H)) pvIs := fun F ρ σ H x y p q z Q g rp rq e hp => by
  unfold pvIs at e
  split at e
  · cases e
    unfold Rep at rp rq
    exact .inl ⟨_, _, rp, rq, hp F H _ Stp.refl g Rep.bl⟩
  · cases e
    unfold Rep at rp rq
    subst rp rq
    exact .inr ⟨rfl, hp F H _ Stp.refl g Rep.bl⟩
  · rename_i hn
    cases e
    have ne : x ≠ .non := rp.notNon (fun z => hn z)
    unfold Rep at rq
    subst rq
    refine .inr ⟨rfl, ?_⟩
    rw [decide_eq_false ne]
    exact hp F H _ Stp.refl g Rep.bl
  · cases e
theorem s_is {a b : Expr} {ma mb : M} (ha : SndE X W a ma) (hb : SndE X W b mb) : SndE X W (.Compare a [.Is] [b] pos) (m2 pvIs ma mb) := s_cmp (OpR.or op_isBl op_isN) is_op2 ha hb (nomark _)
def pvNot : PV → Option PV
  | .bl b => some (.bl (!b))
  | _ => none
def pvIsNot (p q : PV) : Option PV := (pvIs p q).bind pvNot
theorem isnot_op2 : Op2 X W (fun x y H Q => rNotB x y H Q ∨ (y = .non ∧ Q (.bl (!decide (x = .non))) H)) pvIsNot := fun F ρ σ H x y p q z Q g rp rq e hp => by
  unfold pvIsNot pvIs at e
  split at e
  · cases e
    unfold Rep at rp rq
    exact .inl ⟨_, _, rp, rq, hp F H _ Stp.refl g Rep.bl⟩
  · cases e
    unfold Rep at rp rq
    subst rp rq
    exact .inr ⟨rfl, hp F H _ Stp.refl g Rep.bl⟩
  · rename_i hn
    cases e
    have ne : x ≠ .non := rp.notNon (fun z => hn z)
    unfold Rep at rq
    subst rq
    refine .inr ⟨rfl, ?_⟩
    rw [decide_eq_false ne]
    exact hp F H _ Stp.refl g Rep.bl
  · cases e
theorem s_isnot {a b : Expr} {ma mb : M} (ha : SndE X W a ma) (hb : SndE X W b mb) : SndE X W (.Compare a [.IsNot] [b] pos) (m2 pvIsNot ma mb) := s_cmp (OpR.or op_notBl op_notN) isnot_op2 ha hb (nomark _)
end
end Ev

set_option Elab.async false
set_option linter.all false
set_option maxRecDepth 100000
namespace Ev
open PySem L2
/-! ### data, compared at depth -/
mutual
def pvD : PV → PyData
  | .non => .none
  | .bl b => .bool b
  | .int i => .int i
  | .str x => .str x
  | .tup xs => .tuple (pvDs xs)
  | .lst xs => .list (pvDs xs)
  | .dic _ _ => .none
  | .scr _ => .none
  | .ty _ => .none
def pvDs : List PV → List PyData
  | [] => []
  | x :: xs => pvD x :: pvDs xs
end
def okD : Nat → PV → Bool
  | 0, _ => false
  | n + 1, p => match p with
    | .non => true
    | .bl _ => true
    | .int _ => true
    | .str x => PyData.strOk x
    | .tup xs => xs.all (okD n)
    | .lst xs => xs.all (okD n)
    | _ => false
section
variable {K : PySem.W.Frag} {F : Hp}
theorem okD_dp : ∀ (n : Nat) (p : PV) (v : V), okD n p = true → Rep K F p v → Dp K F v (pvD p) ∧ PyData.canLay0 (pvD p) = true ∧ PyData.depth (pvD p) ≤ n
  | 0, p, v, h, _ => by cases h
  | n + 1, p, v, h, r => by
    have all : ∀ (xs : List PV) (vs : List V), xs.all (okD n) = true → Reps K F xs vs → DpAll K F vs (pvDs xs) ∧ PyData.canLayAll0 (pvDs xs) = true ∧ PyData.depthAll (pvDs xs) ≤ n := by
      intro xs
      induction xs with
      | nil =>
        intro vs _ rr
        rw [rr.inv0]
        exact ⟨.nil, by simp [pvDs, PyData.canLayAll0], by simp [pvDs, PyData.depthAll]⟩
      | cons x xs ih =>
        intro vs hx rr
        obtain ⟨w, ws, rfl, a, b⟩ := rr.inv
        simp only [List.all_cons, Bool.and_eq_true] at hx
        obtain ⟨d1, d2, d3⟩ := okD_dp n x w hx.1 a
        obtain ⟨e1, e2, e3⟩ := ih ws hx.2 b
        refine ⟨.cons d1 e1, ?_, ?_⟩
        · simp [pvDs, PyData.canLayAll0, d2, e2]
        · simp only [pvDs, PyData.depthAll]
          omega
    cases p with
    | non => unfold Rep at r; subst r; exact ⟨.non, rfl, by simp [pvD, PyData.depth]⟩
    | bl b => unfold Rep at r; subst r; exact ⟨.bl b, rfl, by simp [pvD, PyData.depth]⟩
    | int b => unfold Rep at r; subst r; exact ⟨.int b, rfl, by simp [pvD, PyData.depth]⟩
    | str b => unfold Rep at r; subst r; exact ⟨.str b, by simpa [okD, pvD, PyData.canLay0] using h, by simp [pvD, PyData.depth]⟩
    | tup xs =>
      unfold Rep at r
      obtain ⟨a, vs, rfl, h1, h2⟩ := r
      obtain ⟨e1, e2, e3⟩ := all xs vs (by simpa [okD] using h) h2
      exact ⟨.tup (SqT.of h1) e1, by simpa [pvD, PyData.canLay0] using e2, by simp only [pvD, PyData.depth]; omega⟩
    | lst xs =>
      unfold Rep at r
      obtain ⟨a, vs, rfl, h1, h2⟩ := r
      obtain ⟨e1, e2, e3⟩ := all xs vs (by simpa [okD] using h) h2
      exact ⟨.lst (SqL.of h1) e1, by simpa [pvD, PyData.canLay0] using e2, by simp only [pvD, PyData.depth]; omega⟩
    | dic _ _ => simp [okD] at h
    | scr _ => simp [okD] at h
    | ty _ => simp [okD] at h
end
def strEq : PV → PV → Option Bool
  | .str x, .str y => some (decide (x = y))
  | _, _ => none
def pvEq (p q : PV) : Option PV := if okD 12 p && okD 12 q then some (.bl (PyData.eqv (pvD p) (pvD q))) else (strEq p q).map .bl
def pvNe (p q : PV) : Option PV := if okD 12 p && okD 12 q then some (.bl (!PyData.eqv (pvD p) (pvD q))) else (strEq p q).map fun b => .bl (!b)
section
variable {X : Cx} {W : WX} {pos : Pos}
theorem shaped_of {K : PySem.W.Frag} {F : Hp} {p : PV} {v : V} (h : okD 12 p = true) (r : Rep K F p v) : SeqAt.shaped (pvD p) = true := by
  obtain ⟨_, b, c⟩ := okD_dp 12 p v h r
  unfold SeqAt.shaped
  rw [b]
  simp
  omega
theorem eq_op2 : Op2 X W (fun x y H Q => rEqD X.K x y H Q ∨ rEq x y H Q) pvEq := fun F ρ σ H x y p q z Q g rp rq e hp => by
  unfold pvEq at e
  split at e
  · rename_i h
    cases e
    rw [Bool.and_eq_true] at h
    have rp' := Rep.mono g.sub _ _ rp
    have rq' := Rep.mono g.sub _ _ rq
    exact .inl ⟨_, _, (okD_dp 12 p x h.1 rp').1, (okD_dp 12 q y h.2 rq').1, shaped_of h.1 rp, shaped_of h.2 rq, hp F H _ Stp.refl g Rep.bl⟩
  · cases p <;> try (cases e; done)
    cases q <;> try (cases e; done)
    cases e
    unfold Rep at rp rq
    subst rp rq
    refine .inr ⟨rfl, ?_⟩
    rename_i x y _
    have h := hp F H (.bl (decide (x = y))) Stp.refl g Rep.bl
    have e2 : decide (V.str x = V.str y) = decide (x = y) := by simp
    rw [e2]
    exact h
theorem ne_op2 : Op2 X W (fun x y H Q => rNeD X.K x y H Q ∨ rNe x y H Q) pvNe := fun F ρ σ H x y p q z Q g rp rq e hp => by
  unfold pvNe at e
  split at e
  · rename_i h
    cases e
    rw [Bool.and_eq_true] at h
    have rp' := Rep.mono g.sub _ _ rp
    have rq' := Rep.mono g.sub _ _ rq
    exact .inl ⟨_, _, (okD_dp 12 p x h.1 rp').1, (okD_dp 12 q y h.2 rq').1, shaped_of h.1 rp, shaped_of h.2 rq, hp F H _ Stp.refl g Rep.bl⟩
  · cases p <;> try (cases e; done)
    cases q <;> try (cases e; done)
    cases e
    unfold Rep at rp rq
    subst rp rq
    refine .inr ⟨rfl, ?_⟩
    rename_i x y _
    have h := hp F H (.bl (!decide (x = y))) Stp.refl g Rep.bl
    have e2 : decide (V.str x = V.str y) = decide (x = y) := by simp
    rw [e2]
    exact h
theorem s_eq {a b : Expr} {ma mb : M} (hu : X.A.units + 64 < cLine) (ha : SndE X W a ma) (hb : SndE X W b mb) : SndE X W (.Compare a [.Eq] [b] pos) (m2 pvEq ma mb) := s_cmp (OpR.or (op_eqD hu) op_eq) eq_op2 ha hb (nomark _)
theorem s_ne {a b : Expr} {ma mb : M} (hu : X.A.units + 64 < cLine) (ha : SndE X W a ma) (hb : SndE X W b mb) : SndE X W (.Compare a [.NotEq] [b] pos) (m2 pvNe ma mb) := s_cmp (OpR.or (op_neD hu) op_ne) ne_op2 ha hb (nomark _)
/-! in -/
def flatP : PV → Bool
  | .non => true | .bl _ => true | .int _ => true | .str _ => true | _ => false
def eqP : PV → PV → Bool
  | .non, .non => true
  | .bl a, .bl b => a == b
  | .bl a, .int b => (if a then 1 else 0) == b
  | .int a, .bl b => a == (if b then 1 else 0)
  | .int a, .int b => a == b
  | .str a, .str b => a == b
  | _, _ => false
theorem flat_of {K : PySem.W.Frag} {F : Hp} {p : PV} {v : V} (r : Rep K F p v) (h : flatP p = true) : flatV v = true := by
  cases p <;> first | (unfold Rep at r; subst r; rfl) | (simp [flatP] at h)
theorem eqP_of {K : PySem.W.Frag} {F : Hp} {p q : PV} {v w : V} (r : Rep K F p v) (r' : Rep K F q w) (h : flatP p = true) (h' : flatP q = true) : eqV v w = eqP p q := by
  cases p <;> first | (simp [flatP] at h; done) | skip
  all_goals (cases q <;> first | (simp [flatP] at h'; done) | skip)
  all_goals (unfold Rep at r r'; subst r r'; rfl)
theorem flats_of {K : PySem.W.Frag} {F : Hp} : ∀ {ps : List PV} {vs : List V}, Reps K F ps vs → ps.all flatP = true → vs.all flatV = true
  | [], vs, r, _ => by rw [r.inv0]; rfl
  | p :: ps, vs, r, h => by
    obtain ⟨v, ws, rfl, a, b⟩ := r.inv
    simp only [List.all_cons, Bool.and_eq_true] at h ⊢
    exact ⟨flat_of a h.1, flats_of b h.2⟩
theorem inP_of {K : PySem.W.Frag} {F : Hp} {q : PV} {w : V} (r' : Rep K F q w) (h' : flatP q = true) : ∀ {ps : List PV} {vs : List V}, Reps K F ps vs → ps.all flatP = true → inV w vs = ps.any fun y => eqP y q
  | [], vs, r, _ => by rw [r.inv0]; rfl
  | p :: ps, vs, r, h => by
    obtain ⟨v, ws, rfl, a, b⟩ := r.inv
    simp only [List.all_cons, Bool.and_eq_true] at h
    have ih := inP_of r' h' b h.2
    unfold inV at ih ⊢
    simp only [List.any_cons]
    rw [ih, eqP_of a r' h.1 h']
def pvItems : PV → Option (List PV)
  | .lst xs => some xs
  | .tup xs => some xs
  | _ => none
def pvIn (p q : PV) : Option PV := (pvItems q).bind fun xs => if flatP p && xs.all flatP then some (.bl (xs.any fun y => eqP y p)) else none
theorem items_sq {K : PySem.W.Frag} {F : Hp} {p : PV} {v : V} {xs : List PV} (r : Rep K F p v) (h : pvItems p = some xs) : ∃ a vs, v = .ref a ∧ ((p = .lst xs ∧ F a = some (.lst vs)) ∨ (p = .tup xs ∧ F a = some (.tup vs))) ∧ Reps K F xs vs := by
  cases p <;> simp [pvItems] at h
  · subst h; unfold Rep at r; obtain ⟨a, vs, rfl, h1, h2⟩ := r; exact ⟨a, vs, rfl, .inr ⟨rfl, h1⟩, h2⟩
  · subst h; unfold Rep at r; obtain ⟨a, vs, rfl, h1, h2⟩ := r; exact ⟨a, vs, rfl, .inl ⟨rfl, h1⟩, h2⟩
theorem sq_or {K : PySem.W.Frag} {F H : Hp} {p : PV} {a : Addr} {xs : List PV} {vs : List V} (s : Same F H) (h : (p = .lst xs ∧ F a = some (.lst vs)) ∨ (p = .tup xs ∧ F a = some (.tup vs))) : SqL K H a vs ∨ SqT K H a vs :=
  h.elim (fun z => .inl (SqL.of (s _ _ z.2))) fun z => .inr (SqT.of (s _ _ z.2))
theorem in_op2 : Op2 X W (rIn X.K false) pvIn := fun F ρ σ H x y p q z Q g rp rq e hp => by
  unfold pvIn at e
  cases hi : pvItems q with
  | none => rw [hi] at e; cases e
  | some xs =>
    rw [hi] at e
    simp only [Option.bind_some] at e
    split at e
    · rename_i h
      cases e
      rw [Bool.and_eq_true] at h
      obtain ⟨a, vs, rfl, h1, h2⟩ := items_sq rq hi
      refine ⟨a, vs, rfl, sq_or g.sub h1, flat_of rp h.1, flats_of h2 h.2, ?_⟩
      rw [if_neg (by decide), inP_of rp h.1 h2 h.2]
      exact hp F H _ Stp.refl g Rep.bl
    · cases e
def pvNotIn (p q : PV) : Option PV := (pvIn p q).bind pvNot
theorem notin_op2 : Op2 X W (rIn X.K true) pvNotIn := fun F ρ σ H x y p q z Q g rp rq e hp => by
  unfold pvNotIn pvIn at e
  cases hi : pvItems q with
  | none => rw [hi] at e; cases e
  | some xs =>
    rw [hi] at e
    simp only [Option.bind_some] at e
    split at e
    · rename_i h
      cases e
      rw [Bool.and_eq_true] at h
      obtain ⟨a, vs, rfl, h1, h2⟩ := items_sq rq hi
      refine ⟨a, vs, rfl, sq_or g.sub h1, flat_of rp h.1, flats_of h2 h.2, ?_⟩
      rw [if_pos rfl, inP_of rp h.1 h2 h.2]
      exact hp F H _ Stp.refl g Rep.bl
    · cases e
theorem s_in {a b : Expr} {ma mb : M} (ha : SndE X W a ma) (hb : SndE X W b mb) (hm : behindInMarks .In b = false := by with_unfolding_all rfl) : SndE X W (.Compare a [.In] [b] pos) (m2 pvIn ma mb) := s_cmp op_in_seq in_op2 ha hb hm
theorem s_notin {a b : Expr} {ma mb : M} (ha : SndE X W a ma) (hb : SndE X W b mb) (hm : behindInMarks .NotIn b = false := by with_unfolding_all rfl) : SndE X W (.Compare a [.NotIn] [b] pos) (m2 pvNotIn ma mb) := s_cmp op_notIn_seq notin_op2 ha hb hm
/-! a op b op c -/
def mChain (op op' : PV → PV → Option PV) (a b c : M) : M := fun ρ => (a ρ).bnd fun p ρ1 => (b ρ1).bnd fun q ρ2 => match op p q with
  | some (.bl true) => (c ρ2).bnd fun r ρ3 => Res.of (op' q r) ρ3
  | some (.bl false) => .ok (.bl false, ρ2)
  | _ => .bad
theorem s_chainE {a b c e : Expr} {ma mb mc : M} {op op' : PV → PV → Option PV} {r r' : R2} (hpe : PE X e (tChain r r' (WE X a) (WE X b) (WE X c))) (h2 : Op2 X W r op) (h2' : Op2 X W r' op') (ha : SndE X W a ma) (hb : SndE X W b mb) (hc : SndE X W c mc) : SndE X W e (mChain op op' ma mb mc) := fun F ρ σ H Q g hp => by
  refine we_of hpe ?_
  refine ha.then g hp fun F1 ρ1 H1 p x _ g1 rp hp1 => ?_
  refine hb.then g1 hp1 fun F2 ρ2 H2 q y st2 g2 rq hp2 => ?_
  split at hp2
  · rename_i ez
    refine h2 F2 ρ2 σ H2 x y p q _ _ g2 (Rep.mono st2.ff _ _ rp) rq ez ?_
    intro F3 H3 v st3 g3 rv
    replace rv : Rep X.K F3 (.bl true) v := rv
    unfold Rep at rv
    subst rv
    refine ⟨true, rfl, ?_⟩
    rw [if_pos rfl]
    refine hc.then g3 (Post.next st3 hp2) fun F4 ρ4 H4 z w st4 g4 rz hp4 => ?_
    obtain ⟨t, et⟩ := hp4.some
    refine h2' F4 ρ4 σ H4 y w q z t Q g4 (Rep.mono st4.ff _ _ (Rep.mono st3.ff _ _ rq)) rz et ?_
    rw [et] at hp4
    exact hp4
  · rename_i ez
    refine h2 F2 ρ2 σ H2 x y p q _ _ g2 (Rep.mono st2.ff _ _ rp) rq ez ?_
    intro F3 H3 v st3 g3 rv
    replace rv : Rep X.K F3 (.bl false) v := rv
    unfold Rep at rv
    subst rv
    refine ⟨false, rfl, ?_⟩
    rw [if_neg (by decide)]
    exact hp2 F3 H3 _ st3 g3 Rep.bl
  · exact hp2.elim
theorem s_chain {a b c : Expr} {ma mb mc : M} {o o' : CmpOp} {op op' : PV → PV → Option PV} {r r' : R2} (ho : OpR X (compareOp o) r) (ho' : OpR X (compareOp o') r') (h2 : Op2 X W r op) (h2' : Op2 X W r' op')
    (ha : SndE X W a ma) (hb : SndE X W b mb) (hc : SndE X W c mc) (hm : lastMarks [o, o'] [b, c] = false := by with_unfolding_all rfl) : SndE X W (.Compare a [o, o'] [b, c] pos) (mChain op op' ma mb mc) :=
  s_chainE (pe_chain ho ho' pe_we pe_we pe_we hm) h2 h2' ha hb hc

/-! ### argument lists, displays -/
def mArgs : List M → MA
  | [] => fun ρ => .ok ([], ρ)
  | m :: ms => fun ρ => (m ρ).bnd fun p ρ1 => (mArgs ms ρ1).bnd fun ps ρ2 => .ok (p :: ps, ρ2)
theorem sa_nil : SndA X W [] (mArgs []) := fun F ρ σ H Q g hp => wa_of pa_nil (show Q [] H from hp F H [] Stp.refl g Reps.nil)
theorem sa_cons {e : Expr} {es : List Expr} {m : M} {ms : List M} (ha : SndE X W e m) (hr : SndA X W es (mArgs ms)) (hs : starEach (e :: es) X.env = (false, eval e X.env) :: starEach es X.env := by rfl) : SndA X W (e :: es) (mArgs (m :: ms)) := fun F ρ σ H Q g hp => by
  refine wa_of (pa_cons pe_we pa_wa hs) ?_
  unfold mArgs at hp
  refine ha.then g hp fun F1 ρ1 H1 p x _ g1 rp hp1 => ?_
  refine hr.then g1 hp1 fun F2 ρ2 H2 ps xs st2 g2 rps hp2 => ?_
  exact hp2 F2 H2 _ Stp.refl g2 (Reps.cons (Rep.mono st2.ff _ _ rp) rps)
theorem mArgs_len : ∀ {ms : List M} {ρ ρ' : Rho} {ps : List PV}, mArgs ms ρ = .ok (ps, ρ') → ps.length = ms.length
  | [], ρ, ρ', ps, h => by unfold mArgs at h; cases h; rfl
  | m :: ms, ρ, ρ', ps, h => by
    unfold mArgs at h
    cases h1 : m ρ with
    | bad => rw [h1] at h; cases h
    | exc x r => rw [h1] at h; cases h
    | ok z =>
      obtain ⟨p, ρ1⟩ := z
      rw [h1] at h
      simp only [Res.bnd_ok] at h
      cases h2 : mArgs ms ρ1 with
      | bad => rw [h2] at h; cases h
      | exc x r => rw [h2] at h; cases h
      | ok z =>
        obtain ⟨qs, ρ2⟩ := z
        rw [h2] at h
        simp only [Res.bnd_ok] at h
        cases h
        simp [mArgs_len h2]
theorem SndA.thenL {es : List Expr} {ms : List M} {F : Hp} {ρ : Rho} {σ : St} {H : Hp} {α' β' : Type} {rep' : RepT α' β'} [RepM rep'] {Q' : β' → Hp → Prop} {f : List PV → Rho → Res (α' × Rho)} {R : List V → Hp → Prop} (ha : SndA X W es (mArgs ms)) (g : Good X.K F ρ σ H) (hp : Post rep' X W F ρ σ H ((mArgs ms ρ).bnd f) Q')
    (k : ∀ F1 ρ1 H1 p v, Stp σ F ρ H F1 ρ1 H1 → Good X.K F1 ρ1 σ H1 → Reps X.K F1 p v → p.length = ms.length → Post rep' X W F1 ρ1 σ H1 (f p ρ1) Q' → R v H1) : WA X es σ H R := by
  refine ha F ρ σ H R g ?_
  match hm : mArgs ms ρ, hp with
  | .ok (p, ρ1), hp => exact fun F1 H1 v st g rp => k F1 ρ1 H1 p v st g rp (mArgs_len hm) (Post.next st hp)
  | .exc x ρ', h => exact h
theorem small_le {n : Nat} (h : n ≤ 1000) : n ≤ sizeLine := Nat.le_of_lt (small1000 h)
def mTup (ms : List M) : M := fun ρ => (mArgs ms ρ).bnd fun ps ρ1 => .ok (.tup ps, ρ1)
theorem s_tup {es : List Expr} {ms : List M} {x1} (ha : SndA X W es (mArgs ms)) (hl : ms.length ≤ 1000 := by decide) : SndE X W (.Tuple es x1 pos) (mTup ms) := fun F ρ σ H Q g hp => by
  refine we_of (pe_tup pa_wa) ?_
  refine ha.thenL g hp fun F1 ρ1 H1 ps vs _ g1 rp len hp1 => ?_
  exact ⟨small_le (by rw [← rp.length, len]; exact hl), Post.newT g1 hp1 rp⟩
/-- a new list of one's own at p -/
theorem Post.newF {F H : Hp} {ρ : Rho} {σ : St} {xs : List PV} {vs : List V} {Q : VK} (g : Good X.K F ρ σ H) (hp : Post (repF X.K σ) X W F ρ σ H (.ok (xs, ρ)) Q) (r : Reps X.K F xs vs) : ∀ p, H p = none → Q (.ref p) (upd H p (.lst vs)) := fun p n => by
  refine hp F _ _ (Stp.lay n) (g.lay n) ⟨p, vs, rfl, n, g.fnone n, fun i ys e z => ?_, upd_same, r⟩
  obtain ⟨a, ws, e1, e2, e3, e4⟩ := g.own i ys e
  rw [e1] at z
  cases z
  rw [n] at e3
  cases e3
theorem f_lst {es : List Expr} {ms : List M} (ha : SndA X W es (mArgs ms)) (hl : ms.length ≤ 1000 := by decide) : SndF X W (.List es pos) (mArgs ms) := fun F ρ σ H Q g hp => by
  refine we_of (pe_lst pa_wa) ?_
  have hp' : Post (repF X.K σ) X W F ρ σ H ((mArgs ms ρ).bnd fun ps ρ1 => .ok (ps, ρ1)) Q := by
    cases h : mArgs ms ρ with
    | ok z => obtain ⟨p, ρ1⟩ := z; rw [h] at hp; exact hp
    | exc x r => rw [h] at hp; exact hp
    | bad => rw [h] at hp; exact hp
  refine ha.thenL g hp' fun F1 ρ1 H1 ps vs _ g1 rp len hp1 => ?_
  exact ⟨small_le (by rw [← rp.length, len]; exact hl), Post.newF g1 hp1 rp⟩
theorem s_lst {es : List Expr} {ms : List M} (ha : SndA X W es (mArgs ms)) (hl : ms.length ≤ 1000 := by decide) : SndE X W (.List es pos) (mFrz (mArgs ms)) := (f_lst ha hl).snd

/-! ### items -/
def pvIx : PV → PV → Option PV
  | .lst xs, .int i => atI xs i
  | .tup xs, .int i => atI xs i
  | .scr ns, .int i => (atI ns i).map .int
  | .str z, .int i => if z.length ≤ sizeLine then (atI z.cps.toList i).map (fun c => .str ⟨#[c]⟩) else none
  | _, _ => none
theorem atI_reps {K : PySem.W.Frag} {F : Hp} {ps : List PV} {vs : List V} {i : Int} {p : PV} (r : Reps K F ps vs) (h : atI ps i = some p) : ∃ v, atI vs i = some v ∧ Rep K F p v := by
  unfold atI at h ⊢
  rw [← r.length]
  cases e : ixN ps.length i with
  | none => rw [e] at h; cases h
  | some j =>
    rw [e] at h
    exact r.get h
theorem ix_op2 : Op2 X W (rIx X.K) pvIx := fun F ρ σ H x y p q z Q g rp rq e hp => by
  unfold pvIx at e
  split at e
  · unfold Rep at rp rq
    obtain ⟨a, vs, rfl, h1, h2⟩ := rp
    obtain ⟨v, h3, h4⟩ := atI_reps h2 e
    exact .inl ⟨a, vs, _, v, rfl, rq, SqL.of (g.sub _ _ h1), h3, hp F H _ Stp.refl g h4⟩
  · unfold Rep at rp rq
    obtain ⟨a, vs, rfl, h1, h2⟩ := rp
    obtain ⟨v, h3, h4⟩ := atI_reps h2 e
    exact .inr (.inl ⟨a, vs, _, v, rfl, rq, SqT.of (g.sub _ _ h1), h3, hp F H _ Stp.refl g h4⟩)
  · rename_i ns i
    unfold Rep at rp rq
    obtain ⟨a, rfl, h1⟩ := rp
    cases ea : atI ns i with
    | none => rw [ea] at e; cases e
    | some n =>
      rw [ea] at e
      cases e
      refine .inl ⟨a, _, _, .int n, rfl, rq, g.sub.seq h1, ?_, hp F H _ Stp.refl g Rep.int⟩
      unfold atI at ea ⊢
      rw [List.length_map]
      cases e2 : ixN ns.length i with
      | none => rw [e2] at ea; cases ea
      | some j =>
        rw [e2] at ea
        simp only [Option.bind_some] at ea ⊢
        rw [List.getElem?_map, ea]
        rfl
  · rename_i s i
    split at e
    · rename_i hl
      unfold Rep at rp rq
      cases ea : atI s.cps.toList i with
      | none => rw [ea] at e; cases e
      | some c =>
        rw [ea] at e
        cases e
        exact .inr (.inr ⟨s, i, c, rp, rq, hl, ea, hp F H _ Stp.refl g Rep.str⟩)
    · cases e
  · cases e
theorem s_ix {a b : Expr} {ma mb : M} (ha : SndE X W a ma) (hb : SndE X W b mb) (hs : PlainIx b := by exact fun _ _ => rfl) : SndE X W (.Subscript a b pos) (m2 pvIx ma mb) := s_two (pe_ix ix_seq pe_we pe_we hs) ix_op2 ha hb
/-- what a slot holds, read without taking it -/
def slotV (ρ : Rho) (i : Nat) : Option PV := match ρ[i]? with
  | some (.val p) => some p
  | some (.own xs) => some (.lst xs)
  | _ => none
theorem Good.slot {K : PySem.W.Frag} {F H : Hp} {ρ : Rho} {σ : St} {i : Nat} {p : PV} (g : Good K F ρ σ H) (h : slotV ρ i = some p) : ∃ v, σ[i]? = some (some v) ∧ Rep K H p v := by
  unfold slotV at h
  split at h
  · rename_i q e
    cases h
    obtain ⟨v, e1, e2⟩ := g.val i _ e
    exact ⟨v, e1, Rep.mono g.sub _ _ e2⟩
  · rename_i xs e
    cases h
    obtain ⟨a, vs, e1, e2, e3, e4⟩ := g.own i _ e
    refine ⟨.ref a, e1, ?_⟩
    unfold Rep
    exact ⟨a, vs, rfl, e3, Reps.mono g.sub _ _ e4⟩
  · cases h
/-- what the items of an own list, or a value, are known as -/
theorem Good.slotItem {K : PySem.W.Frag} {F H : Hp} {ρ : Rho} {σ : St} {i : Nat} {p : PV} (g : Good K F ρ σ H) (h : slotV ρ i = some p) : ∃ v, σ[i]? = some (some v) ∧ (Rep K F p v ∨ ∃ a vs xs, v = .ref a ∧ p = .lst xs ∧ H a = some (.lst vs) ∧ Reps K F xs vs) := by
  unfold slotV at h
  split at h
  · rename_i q e
    cases h
    obtain ⟨v, e1, e2⟩ := g.val i _ e
    exact ⟨v, e1, .inl e2⟩
  · rename_i xs e
    cases h
    obtain ⟨a, vs, e1, e2, e3, e4⟩ := g.own i _ e
    exact ⟨.ref a, e1, .inr ⟨a, vs, xs, rfl, rfl, e3, e4⟩⟩
  · cases h
/-- name[e], the name's list not taken -/
def mIxN (i : Nat) (mb : M) : M := fun ρ => match slotV ρ i with
  | none => .bad
  | some _ => (mb ρ).bnd fun q ρ1 => Res.of ((slotV ρ1 i).bind fun p => pvIx p q) ρ1
theorem s_ixN {x : Str} {p0 : Pos} {b : Expr} {mb : M} (i : Nat) (h : PE X (.Name x p0) (tVar i)) (hb : SndE X W b mb) (hs : PlainIx b := by exact fun _ _ => rfl) : SndE X W (.Subscript (.Name x p0) b pos) (mIxN i mb) := fun F ρ σ H Q g hp => by
  refine we_of (pe_ix ix_seq h pe_we hs) ?_
  unfold mIxN at hp
  cases e0 : slotV ρ i with
  | none => rw [e0] at hp; exact hp.elim
  | some p0 =>
    rw [e0] at hp
    obtain ⟨v, ev, _⟩ := g.slot e0
    refine ⟨v, ev, hb.then g hp fun F1 ρ1 H1 q y st1 g1 rq hp1 => ?_⟩
    obtain ⟨z, ez⟩ := hp1.some
    cases e1 : slotV ρ1 i with
    | none => rw [e1] at ez; cases ez
    | some p =>
      rw [e1] at ez hp1
      simp only [Option.bind_some] at ez hp1
      rw [ez] at hp1
      obtain ⟨w, ew, hw⟩ := g1.slotItem e1
      rw [ev] at ew
      cases ew
      rcases hw with hw | ⟨a, vs, xs, rfl, rfl, h1, h2⟩
      · exact ix_op2 F1 ρ1 σ H1 v y p q z Q g1 hw rq ez hp1
      · unfold pvIx at ez
        split at ez
        · rename_i ys k eq1
          cases eq1
          obtain ⟨u, h3, h4⟩ := atI_reps h2 ez
          unfold Rep at rq
          exact .inl ⟨a, vs, _, u, rfl, rq, SqL.of h1, h3, hp1 F1 H1 _ Stp.refl g1 h4⟩
        · rename_i eq1; cases eq1
        · rename_i eq1; cases eq1
        · rename_i eq1; cases eq1
        · cases ez
end
end Ev

set_option Elab.async false
set_option linter.all false
set_option maxRecDepth 100000
namespace Ev
open PySem L2
/-! ### truth, tests -/
def pvTruth : PV → Option Bool
  | .non => some false
  | .bl b => some b
  | .int i => some (i != 0)
  | .str x => if x.length ≤ sizeLine then some ((x.length : Int) != 0) else none
  | .lst xs => some (!xs.isEmpty)
  | .tup xs => some (!xs.isEmpty)
  | .scr ns => some (!ns.isEmpty)
  | _ => none
section
variable {X : Cx} {W : WX} {pos : Pos}
theorem Reps.emp {K : PySem.W.Frag} {F : Hp} {xs : List PV} {vs : List V} (r : Reps K F xs vs) : xs.isEmpty = vs.isEmpty := by
  cases xs with
  | nil => rw [r.inv0]; rfl
  | cons x xs => obtain ⟨_, _, rfl, _⟩ := r.inv; rfl
theorem tru_of {K : PySem.W.Frag} {F : Hp} {p : PV} {v : V} {k : Bool} (r : Rep K F p v) (h : pvTruth p = some k) : TruV K v F k := by
  cases p with
  | non => unfold Rep at r; subst r; cases h; rfl
  | bl b => unfold Rep at r; subst r; cases h; rfl
  | int i => unfold Rep at r; subst r; cases h; rfl
  | str x =>
    unfold Rep at r; subst r
    simp only [pvTruth] at h
    split at h
    · rename_i hl; cases h; exact ⟨hl, rfl⟩
    · cases h
  | lst xs => unfold Rep at r; obtain ⟨a, vs, rfl, h1, h2⟩ := r; cases h; exact .inl ⟨vs, SqL.of h1, by rw [h2.emp]⟩
  | tup xs => unfold Rep at r; obtain ⟨a, vs, rfl, h1, h2⟩ := r; cases h; exact .inr (.inl ⟨vs, SqT.of h1, by rw [h2.emp]⟩)
  | scr ns => unfold Rep at r; obtain ⟨a, rfl, h1⟩ := r; cases h; exact .inl ⟨_, h1, by cases ns <;> rfl⟩
  | dic _ _ => cases h
  | ty _ => cases h
theorem TruV.mono {K : PySem.W.Frag} {F H : Hp} {p : PV} {v : V} {k : Bool} (s : Same F H) (r : Rep K F p v) (h : pvTruth p = some k) : TruV K v H k := tru_of (Rep.mono s _ _ r) h
def mTest (m : M) : MT := fun ρ => (m ρ).bnd fun p ρ1 => Res.of (pvTruth p) ρ1
theorem t_truth {e : Expr} {m : M} (h : SndE X W e m) (he : ∀ whole, isTrue e X.env whole = (do let v ← whole; standAt e.pos; holding [v] (truthy v)) := by intro _; rfl) : SndT X W e (mTest m) := fun F ρ σ H Q g hp => by
  refine wt_of (pt_truth pe_we he) ?_
  refine h.then g hp fun F1 ρ1 H1 p v st g1 rp hp1 => ?_
  obtain ⟨k, ek⟩ := hp1.some
  exact ⟨k, TruV.mono g1.sub rp ek, hp1.here ek g1 rfl⟩
def mTruthN (i : Nat) : MT := fun ρ => Res.of ((slotV ρ i).bind pvTruth) ρ
theorem t_name {x : Str} {p0 : Pos} (i : Nat) (h : PE X (.Name x p0) (tVar i)) (he : ∀ whole, isTrue (.Name x p0) X.env whole = (do let v ← whole; standAt (Expr.Name x p0).pos; holding [v] (truthy v)) := by intro _; rfl) : SndT X W (.Name x p0) (mTruthN i) := fun F ρ σ H Q g hp => by
  refine wt_of (pt_truth h he) ?_
  unfold mTruthN at hp
  obtain ⟨k, ek⟩ := hp.some
  cases e : slotV ρ i with
  | none => rw [e] at ek; cases ek
  | some p =>
    rw [e] at ek
    obtain ⟨v, ev, rv⟩ := g.slot e
    rw [e] at hp
    exact ⟨v, ev, k, tru_of rv ek, hp.here ek g rfl⟩
/-- a comparison as a test -/
theorem t_two {a b e : Expr} {ma mb : M} {op : PV → PV → Option PV} {r : R2} (hpt : PT X e (tTest (tOp r (WE X a) (WE X b)))) (h2 : Op2 X W r op) (hB : ∀ p q z, op p q = some z → ∃ k, z = .bl k) (ha : SndE X W a ma) (hb : SndE X W b mb) : SndT X W e (mTest (m2 op ma mb)) := fun F ρ σ H Q g hp => by
  refine wt_of hpt ?_
  have hp' : Post repT X W F ρ σ H ((ma ρ).bnd fun p ρ1 => (mb ρ1).bnd fun q ρ2 => (Res.of (op p q) ρ2).bnd fun z ρ3 => Res.of (pvTruth z) ρ3) Q := by
    unfold mTest m2 at hp
    cases h1 : ma ρ with
    | bad => rw [h1] at hp; exact hp
    | exc x r => rw [h1] at hp; exact hp
    | ok z =>
      obtain ⟨p, ρ1⟩ := z
      rw [h1] at hp
      simp only [Res.bnd_ok] at hp ⊢
      cases h3 : mb ρ1 with
      | bad => rw [h3] at hp; exact hp
      | exc x r => rw [h3] at hp; exact hp
      | ok z => obtain ⟨q, ρ2⟩ := z; rw [h3] at hp; exact hp
  refine ha.then g hp' fun F1 ρ1 H1 p x _ g1 rp hp1 => ?_
  refine hb.then g1 hp1 fun F2 ρ2 H2 q y st2 g2 rq hp2 => ?_
  cases ez : op p q with
  | none => rw [ez] at hp2; exact hp2.elim
  | some z =>
    rw [ez] at hp2
    obtain ⟨k, rfl⟩ := hB p q z ez
    refine h2 F2 ρ2 σ H2 x y p q _ _ g2 (Rep.mono st2.ff _ _ rp) rq ez ?_
    intro F3 H3 v st3 g3 rv
    replace rv : Rep X.K F3 (.bl k) v := rv
    unfold Rep at rv
    subst rv
    exact ⟨k, rfl, hp2 F3 H3 k st3 g3 rfl⟩
theorem t_cmp {a b : Expr} {ma mb : M} {o : CmpOp} {op : PV → PV → Option PV} {r : R2} (ho : OpR X (compareOp o) r) (h2 : Op2 X W r op) (hB : ∀ p q z, op p q = some z → ∃ k, z = .bl k) (ha : SndE X W a ma) (hb : SndE X W b mb) (hm : behindInMarks o b = false) : SndT X W (.Compare a [o] [b] pos) (mTest (m2 op ma mb)) :=
  t_two (pt_cmpR ho pe_we pe_we hm) h2 hB ha hb
theorem bl_eq (p q z : PV) (h : pvEq p q = some z) : ∃ k, z = .bl k := by
  unfold pvEq at h
  split at h
  · cases h; exact ⟨_, rfl⟩
  · cases e : strEq p q with
    | none => rw [e] at h; cases h
    | some b => rw [e] at h; cases h; exact ⟨_, rfl⟩
theorem bl_ne (p q z : PV) (h : pvNe p q = some z) : ∃ k, z = .bl k := by
  unfold pvNe at h
  split at h
  · cases h; exact ⟨_, rfl⟩
  · cases e : strEq p q with
    | none => rw [e] at h; cases h
    | some b => rw [e] at h; cases h; exact ⟨_, rfl⟩
theorem bl_lt (p q z : PV) (h : pvLt p q = some z) : ∃ k, z = .bl k := by unfold pvLt at h; split at h <;> cases h; exact ⟨_, rfl⟩
theorem bl_le (p q z : PV) (h : pvLe p q = some z) : ∃ k, z = .bl k := by unfold pvLe at h; split at h <;> cases h; exact ⟨_, rfl⟩
theorem bl_gt (p q z : PV) (h : pvGt p q = some z) : ∃ k, z = .bl k := by unfold pvGt at h; split at h <;> cases h; exact ⟨_, rfl⟩
theorem bl_ge (p q z : PV) (h : pvGe p q = some z) : ∃ k, z = .bl k := by unfold pvGe at h; split at h <;> cases h; exact ⟨_, rfl⟩
theorem bl_is (p q z : PV) (h : pvIs p q = some z) : ∃ k, z = .bl k := by unfold pvIs at h; split at h <;> cases h <;> exact ⟨_, rfl⟩
theorem bl_not {o : Option PV} {z : PV} (h : o.bind pvNot = some z) : ∃ k, z = .bl k := by
  cases o with
  | none => cases h
  | some y => unfold pvNot at h; simp only [Option.bind_some] at h; split at h <;> cases h; exact ⟨_, rfl⟩
theorem bl_isnot (p q z : PV) (h : pvIsNot p q = some z) : ∃ k, z = .bl k := bl_not h
theorem bl_in (p q z : PV) (h : pvIn p q = some z) : ∃ k, z = .bl k := by
  unfold pvIn at h
  cases e : pvItems q with
  | none => rw [e] at h; cases h
  | some xs => rw [e] at h; simp only [Option.bind_some] at h; split at h <;> cases h; exact ⟨_, rfl⟩
theorem bl_notin (p q z : PV) (h : pvNotIn p q = some z) : ∃ k, z = .bl k := bl_not h
section
variable {a b : Expr} {ma mb : M} (ha : SndE X W a ma) (hb : SndE X W b mb)
include ha hb
theorem t_eq (hu : X.A.units + 64 < cLine) : SndT X W (.Compare a [.Eq] [b] pos) (mTest (m2 pvEq ma mb)) := t_cmp (OpR.or (op_eqD hu) op_eq) eq_op2 bl_eq ha hb (nomark _)
theorem t_ne (hu : X.A.units + 64 < cLine) : SndT X W (.Compare a [.NotEq] [b] pos) (mTest (m2 pvNe ma mb)) := t_cmp (OpR.or (op_neD hu) op_ne) ne_op2 bl_ne ha hb (nomark _)
theorem t_lt : SndT X W (.Compare a [.Lt] [b] pos) (mTest (m2 pvLt ma mb)) := t_cmp op_lt lt_op2 bl_lt ha hb (nomark _)
theorem t_le : SndT X W (.Compare a [.LtE] [b] pos) (mTest (m2 pvLe ma mb)) := t_cmp op_le le_op2 bl_le ha hb (nomark _)
theorem t_gt : SndT X W (.Compare a [.Gt] [b] pos) (mTest (m2 pvGt ma mb)) := t_cmp op_gt gt_op2 bl_gt ha hb (nomark _)
theorem t_ge : SndT X W (.Compare a [.GtE] [b] pos) (mTest (m2 pvGe ma mb)) := t_cmp op_ge ge_op2 bl_ge ha hb (nomark _)
theorem t_is : SndT X W (.Compare a [.Is] [b] pos) (mTest (m2 pvIs ma mb)) := t_cmp (OpR.or op_isBl op_isN) is_op2 bl_is ha hb (nomark _)
theorem t_isnot : SndT X W (.Compare a [.IsNot] [b] pos) (mTest (m2 pvIsNot ma mb)) := t_cmp (OpR.or op_notBl op_notN) isnot_op2 bl_isnot ha hb (nomark _)
theorem t_in (hm : behindInMarks .In b = false := by with_unfolding_all rfl) : SndT X W (.Compare a [.In] [b] pos) (mTest (m2 pvIn ma mb)) := t_cmp op_in_seq in_op2 bl_in ha hb hm
theorem t_notin (hm : behindInMarks .NotIn b = false := by with_unfolding_all rfl) : SndT X W (.Compare a [.NotIn] [b] pos) (mTest (m2 pvNotIn ma mb)) := t_cmp op_notIn_seq notin_op2 bl_notin ha hb hm
end
/-- a chain as a test -/
theorem t_chain {a b c : Expr} {ma mb mc : M} {o o' : CmpOp} {op op' : PV → PV → Option PV} {r r' : R2} (ho : OpR X (compareOp o) r) (ho' : OpR X (compareOp o') r') (h2 : Op2 X W r op) (h2' : Op2 X W r' op') (hB' : ∀ p q z, op' p q = some z → ∃ k, z = .bl k)
    (ha : SndE X W a ma) (hb : SndE X W b mb) (hc : SndE X W c mc) (hm : lastMarks [o, o'] [b, c] = false := by with_unfolding_all rfl) : SndT X W (.Compare a [o, o'] [b, c] pos) (mTest (mChain op op' ma mb mc)) := fun F ρ σ H Q g hp => by
  refine wt_of (pt_chain ho ho' pe_we pe_we pe_we hm) ?_
  show tChain r r' (WE X a) (WE X b) (WE X c) σ H fun x H' => ∃ k, x = .bl k ∧ Q k H'
  have hp' : Post repT X W F ρ σ H ((ma ρ).bnd fun p ρ1 => (mb ρ1).bnd fun q ρ2 => (match op p q with
      | some (.bl true) => (mc ρ2).bnd fun r ρ3 => Res.of (op' q r) ρ3
      | some (.bl false) => .ok (.bl false, ρ2)
      | _ => .bad : Res (PV × Rho)).bnd fun z ρ3 => Res.of (pvTruth z) ρ3) Q := by
    unfold mTest mChain at hp
    cases h1 : ma ρ with
    | bad => rw [h1] at hp; exact hp
    | exc x r => rw [h1] at hp; exact hp
    | ok z =>
      obtain ⟨p, ρ1⟩ := z
      rw [h1] at hp
      simp only [Res.bnd_ok] at hp ⊢
      cases h3 : mb ρ1 with
      | bad => rw [h3] at hp; exact hp
      | exc x r => rw [h3] at hp; exact hp
      | ok z => obtain ⟨q, ρ2⟩ := z; rw [h3] at hp; exact hp
  refine ha.then g hp' fun F1 ρ1 H1 p x _ g1 rp hp1 => ?_
  refine hb.then g1 hp1 fun F2 ρ2 H2 q y st2 g2 rq hp2 => ?_
  split at hp2
  · rename_i ez
    refine h2 F2 ρ2 σ H2 x y p q _ _ g2 (Rep.mono st2.ff _ _ rp) rq ez ?_
    intro F3 H3 v st3 g3 rv
    replace rv : Rep X.K F3 (.bl true) v := rv
    unfold Rep at rv
    subst rv
    refine ⟨true, rfl, ?_⟩
    rw [if_pos rfl]
    have hq : Post repT X W F2 ρ2 σ H2 ((mc ρ2).bnd fun r ρ3 => (Res.of (op' q r) ρ3).bnd fun z ρ4 => Res.of (pvTruth z) ρ4) Q := by
      cases h3 : mc ρ2 with
      | bad => rw [h3] at hp2; exact hp2
      | exc x r => rw [h3] at hp2; exact hp2
      | ok z => obtain ⟨t, ρ3⟩ := z; rw [h3] at hp2; exact hp2
    refine hc.then g3 (Post.next st3 hq) fun F4 ρ4 H4 z w st4 g4 rz hp4 => ?_
    cases et : op' q z with
    | none => rw [et] at hp4; exact hp4.elim
    | some t =>
      rw [et] at hp4
      obtain ⟨k, rfl⟩ := hB' q z t et
      refine h2' F4 ρ4 σ H4 y w q z _ _ g4 (Rep.mono st4.ff _ _ (Rep.mono st3.ff _ _ rq)) rz et ?_
      intro F5 H5 v st5 g5 rv
      replace rv : Rep X.K F5 (.bl k) v := rv
      unfold Rep at rv
      subst rv
      exact ⟨k, rfl, hp4 F5 H5 k st5 g5 rfl⟩
  · rename_i ez
    refine h2 F2 ρ2 σ H2 x y p q _ _ g2 (Rep.mono st2.ff _ _ rp) rq ez ?_
    intro F3 H3 v st3 g3 rv
    replace rv : Rep X.K F3 (.bl false) v := rv
    unfold Rep at rv
    subst rv
    refine ⟨false, rfl, ?_⟩
    rw [if_neg (by decide)]
    exact ⟨false, rfl, hp2 F3 H3 false st3 g3 rfl⟩
  · exact hp2.elim
/-! and, or, not -/
@[irreducible] def WW (X : Cx) (e : Expr) : TT := fun σ H Q => ∀ (whole : Sem Value) (pins : List (Addr × Obj)) (s : Shared), Inv X pins σ H s → wpAny (model X.prog X.w) X.A (isTrue e X.env whole) (TP X pins σ Q) X.xe s
theorem pw_ww {e : Expr} : PW X e (WW X e) := ⟨fun whole pins s _ _ _ I h => by unfold WW at h; exact h whole pins s I⟩
theorem ww_of {e : Expr} {t : TT} {σ : St} {H : Hp} {Q : Bool → Hp → Prop} (p : PW X e t) (h : t σ H Q) : WW X e σ H Q := by unfold WW; exact fun whole pins s I => p.run whole pins s σ H Q I h
def SndW (X : Cx) (W : WX) (e : Expr) (m : MT) : Prop :=
  ∀ (F : Hp) (ρ : Rho) (σ : St) (H : Hp) (Q : Bool → Hp → Prop), Good X.K F ρ σ H → Post repT X W F ρ σ H (m ρ) Q → WW X e σ H Q
theorem SndW.t {e : Expr} {m : MT} (h : SndW X W e m) : SndT X W e m := fun F ρ σ H Q g hp => wt_of pw_ww.pt (h F ρ σ H Q g hp)
def mAnd (a b : MT) : MT := fun ρ => (a ρ).bnd fun c ρ1 => if c = true then b ρ1 else .ok (false, ρ1)
def mOr (a b : MT) : MT := fun ρ => (a ρ).bnd fun c ρ1 => if c = true then .ok (true, ρ1) else b ρ1
def mNotT (a : MT) : MT := fun ρ => (a ρ).bnd fun c ρ1 => .ok (!c, ρ1)
theorem w_and1 {a : Expr} {ma : MT} (ha : SndT X W a ma) : SndW X W (.BoolOp .And [a] pos) ma := fun F ρ σ H Q g hp => ww_of (pw_and1 pt_wt) (ha F ρ σ H Q g hp)
theorem w_or1 {a : Expr} {ma : MT} (ha : SndT X W a ma) : SndW X W (.BoolOp .Or [a] pos) ma := fun F ρ σ H Q g hp => ww_of (pw_or1 pt_wt) (ha F ρ σ H Q g hp)
theorem w_and {a b : Expr} {rest : List Expr} {ma mb : MT} (ha : SndT X W a ma) (hb : SndW X W (.BoolOp .And (b :: rest) pos) mb) : SndW X W (.BoolOp .And (a :: b :: rest) pos) (mAnd ma mb) := fun F ρ σ H Q g hp => by
  refine ww_of (pw_and pt_wt pw_ww) ?_
  refine ha.then g hp fun F1 ρ1 H1 c st g1 hp1 => ?_
  cases c with
  | true => exact hb F1 ρ1 σ H1 Q g1 hp1
  | false => exact hp1 F1 H1 false Stp.refl g1 rfl
theorem w_or {a b : Expr} {rest : List Expr} {ma mb : MT} (ha : SndT X W a ma) (hb : SndW X W (.BoolOp .Or (b :: rest) pos) mb) : SndW X W (.BoolOp .Or (a :: b :: rest) pos) (mOr ma mb) := fun F ρ σ H Q g hp => by
  refine ww_of (pw_or pt_wt pw_ww) ?_
  refine ha.then g hp fun F1 ρ1 H1 c st g1 hp1 => ?_
  cases c with
  | true => exact hp1 F1 H1 true Stp.refl g1 rfl
  | false => exact hb F1 ρ1 σ H1 Q g1 hp1
theorem t_not {a : Expr} {ma : MT} (ha : SndT X W a ma) : SndT X W (.UnaryOp .Not a pos) (mNotT ma) := fun F ρ σ H Q g hp => by
  refine wt_of (pt_not pt_wt) ?_
  exact ha.then g hp fun F1 ρ1 H1 c st g1 hp1 => hp1 F1 H1 _ Stp.refl g1 rfl
/-! as values -/
def mAndV (a b : M) : M := fun ρ => (a ρ).bnd fun p ρ1 => match p with
  | .bl true => b ρ1
  | .bl false => .ok (.bl false, ρ1)
  | _ => .bad
def mOrV (a b : M) : M := fun ρ => (a ρ).bnd fun p ρ1 => match p with
  | .bl true => .ok (.bl true, ρ1)
  | .bl false => b ρ1
  | _ => .bad
theorem s_one {op} {a : Expr} {ma : M} (ha : SndE X W a ma) : SndE X W (.BoolOp op [a] pos) ma := fun F ρ σ H Q g hp => we_of (pe_one pe_we) (ha F ρ σ H Q g hp)
theorem s_and {a b : Expr} {rest : List Expr} {ma mb : M} (ha : SndE X W a ma) (hb : SndE X W (.BoolOp .And (b :: rest) pos) mb) : SndE X W (.BoolOp .And (a :: b :: rest) pos) (mAndV ma mb) := fun F ρ σ H Q g hp => by
  refine we_of (pe_and pe_we pe_we) ?_
  refine ha.then g hp fun F1 ρ1 H1 p v st g1 rp hp1 => ?_
  split at hp1
  · unfold Rep at rp; exact ⟨true, rp, by rw [if_pos rfl]; exact hb F1 ρ1 σ H1 Q g1 hp1⟩
  · unfold Rep at rp; exact ⟨false, rp, by rw [if_neg (by decide)]; exact hp1 F1 H1 _ Stp.refl g1 Rep.bl⟩
  · exact hp1.elim
theorem s_or {a b : Expr} {rest : List Expr} {ma mb : M} (ha : SndE X W a ma) (hb : SndE X W (.BoolOp .Or (b :: rest) pos) mb) : SndE X W (.BoolOp .Or (a :: b :: rest) pos) (mOrV ma mb) := fun F ρ σ H Q g hp => by
  refine we_of (pe_or pe_we pe_we) ?_
  refine ha.then g hp fun F1 ρ1 H1 p v st g1 rp hp1 => ?_
  split at hp1
  · unfold Rep at rp; exact ⟨true, rp, by rw [if_pos rfl]; exact hp1 F1 H1 _ Stp.refl g1 Rep.bl⟩
  · unfold Rep at rp; exact ⟨false, rp, by rw [if_neg (by decide)]; exact hb F1 ρ1 σ H1 Q g1 hp1⟩
  · exact hp1.elim
def mNotV (a : M) : M := fun ρ => (a ρ).bnd fun p ρ1 => Res.of ((pvTruth p).map fun k => .bl (!k)) ρ1
theorem s_not {a : Expr} {ma : M} (ha : SndE X W a ma) : SndE X W (.UnaryOp .Not a pos) (mNotV ma) := fun F ρ σ H Q g hp => by
  refine we_of (pe_notT pe_we) ?_
  refine ha.then g hp fun F1 ρ1 H1 p v st g1 rp hp1 => ?_
  cases ek : pvTruth p with
  | none => rw [ek] at hp1; exact hp1.elim
  | some k =>
    rw [ek] at hp1
    exact ⟨k, TruV.mono g1.sub rp ek, hp1 F1 H1 _ Stp.refl g1 Rep.bl⟩
def pvNeg : PV → Option PV
  | .int i => some (.int (-i))
  | _ => none
def m1 (op : PV → Option PV) (a : M) : M := fun ρ => (a ρ).bnd fun p ρ1 => Res.of (op p) ρ1
theorem s_neg {a : Expr} {ma : M} (ha : SndE X W a ma) : SndE X W (.UnaryOp .USub a pos) (m1 pvNeg ma) := fun F ρ σ H Q g hp => by
  refine we_of (pe_un un_neg pe_we) ?_
  refine ha.then g hp fun F1 ρ1 H1 p v st g1 rp hp1 => ?_
  obtain ⟨z, ez⟩ := hp1.some
  unfold pvNeg at ez
  split at ez
  · cases ez
    unfold Rep at rp
    exact ⟨_, rp, hp1 F1 H1 _ Stp.refl g1 Rep.int⟩
  · cases ez
def mIf (c : MT) (a b : M) : M := fun ρ => (c ρ).bnd fun k ρ1 => if k = true then a ρ1 else b ρ1
theorem s_if {c a b : Expr} {mc : MT} {ma mb : M} (hc : SndT X W c mc) (ha : SndE X W a ma) (hb : SndE X W b mb) : SndE X W (.IfExp c a b pos) (mIf mc ma mb) := fun F ρ σ H Q g hp => by
  refine we_of (pe_ifExp pt_wt pe_we pe_we) ?_
  refine hc.then g hp fun F1 ρ1 H1 k st g1 hp1 => ?_
  cases k with
  | true => exact ha F1 ρ1 σ H1 Q g1 hp1
  | false => exact hb F1 ρ1 σ H1 Q g1 hp1
def mIfF (c : MT) (a b : MF) : MF := fun ρ => (c ρ).bnd fun k ρ1 => if k = true then a ρ1 else b ρ1
theorem f_if {c a b : Expr} {mc : MT} {ma mb : MF} (hc : SndT X W c mc) (ha : SndF X W a ma) (hb : SndF X W b mb) : SndF X W (.IfExp c a b pos) (mIfF mc ma mb) := fun F ρ σ H Q g hp => by
  refine we_of (pe_ifExp pt_wt pe_we pe_we) ?_
  refine hc.then g hp fun F1 ρ1 H1 k st g1 hp1 => ?_
  cases k with
  | true => exact ha F1 ρ1 σ H1 Q g1 hp1
  | false => exact hb F1 ρ1 σ H1 Q g1 hp1

/-! ### built-ins by name -/
def CallOp (X : Cx) (W : WX) (r : List V → Hp → VK → Prop) (op : List PV → Option PV) : Prop :=
  ∀ (F : Hp) (ρ : Rho) (σ : St) (H : Hp) (vs : List V) (ps : List PV) (z : PV) (Q : VK), Good X.K F ρ σ H → Reps X.K F ps vs → op ps = some z → Post (repE X.K) X W F ρ σ H (.ok (z, ρ)) Q → r vs H Q
def mCallB (op : List PV → Option PV) (ms : List M) : M := fun ρ => (mArgs ms ρ).bnd fun ps ρ1 => Res.of (op ps) ρ1
section
variable {x : Str} {p : Pos} {e : Expr} {es : List Expr} {ms : List M} {id T : String} {r : List V → Hp → VK → Prop} {op : List PV → Option PV}
theorem s_callOf {e' : Expr} (hpe : PE X e' (tCB r (WA X es))) (ho : CallOp X W r op) (ha : SndA X W es (mArgs ms)) : SndE X W e' (mCallB op ms) := fun F ρ σ H Q g hp => by
  refine we_of hpe ?_
  refine ha.thenL g hp fun F1 ρ1 H1 ps vs st g1 rp len hp1 => ?_
  obtain ⟨z, ez⟩ := hp1.some
  rw [ez] at hp1
  exact ho F1 ρ1 σ H1 vs ps z Q g1 rp ez hp1
theorem s_callB (hc : CallR X (.builtin id) r) (ho : CallOp X W r op) (hg : Gl X x) (hm : X.mg x = none) (hv : bootBuiltins x = some (.builtin id)) (ha : SndA X W (e :: es) (mArgs ms)) (hn : x ≠ "__name__" := by decide) (hdb : (x == ("__debug__" : Str)) = false := by decide)
    (he : starEach (e :: es) X.env = (false, eval e X.env) :: starEach es X.env := by rfl) (hpl : (backTo pos (starEach es X.env)).any (·.1) = false := by rfl) : SndE X W (.Call (.Name x p) (e :: es) [] pos) (mCallB op ms) :=
  s_callOf (pe_callB hc hg hm hv pa_wa hn hdb he hpl) ho ha
theorem s_callTy (hc : CallR X (.type T) r) (ho : CallOp X W r op) (hg : Gl X x) (hm : X.mg x = none) (hv : bootBuiltins x = some (.type T)) (ha : SndA X W (e :: es) (mArgs ms)) (hn : x ≠ "__name__" := by decide) (hdb : (x == ("__debug__" : Str)) = false := by decide)
    (he : starEach (e :: es) X.env = (false, eval e X.env) :: starEach es X.env := by rfl) (hpl : (backTo pos (starEach es X.env)).any (·.1) = false := by rfl) : SndE X W (.Call (.Name x p) (e :: es) [] pos) (mCallB op ms) :=
  s_callOf (pe_callTy hc hg hm hv pa_wa hn hdb he hpl) ho ha
end
/-- of a list's ints, bools -/
def intsP : List PV → Option (List Int)
  | [] => some []
  | .int i :: r => (intsP r).map (i :: ·)
  | _ :: _ => none
def blsP : List PV → Option (List Bool)
  | [] => some []
  | .bl b :: r => (blsP r).map (b :: ·)
  | _ :: _ => none
theorem intsP_map : ∀ ns : List Int, intsP (ns.map .int) = some ns
  | [] => rfl
  | n :: ns => by simp [intsP, intsP_map ns]
theorem blsP_map : ∀ bs : List Bool, blsP (bs.map .bl) = some bs
  | [] => rfl
  | n :: ns => by simp [blsP, blsP_map ns]
theorem intsP_of : ∀ {xs : List PV} {ns : List Int}, intsP xs = some ns → xs = ns.map .int
  | [], ns, h => by cases h; rfl
  | x :: xs, ns, h => by
    cases x <;> simp only [intsP] at h <;> first | (cases h; done) | skip
    cases e : intsP xs with
    | none => rw [e] at h; cases h
    | some ms => rw [e] at h; cases h; rw [intsP_of e]; rfl
theorem blsP_of : ∀ {xs : List PV} {ns : List Bool}, blsP xs = some ns → xs = ns.map .bl
  | [], ns, h => by cases h; rfl
  | x :: xs, ns, h => by
    cases x <;> simp only [blsP] at h <;> first | (cases h; done) | skip
    cases e : blsP xs with
    | none => rw [e] at h; cases h
    | some ms => rw [e] at h; cases h; rw [blsP_of e]; rfl
theorem Reps.bls {K : PySem.W.Frag} {F : Hp} : ∀ {bs : List Bool} {vs : List V}, Reps K F (bs.map .bl) vs → vs = bs.map V.bl
  | [], vs, h => h.inv0
  | n :: ns, vs, h => by
    obtain ⟨v, r, rfl, x, y⟩ := Reps.inv h
    unfold Rep at x
    rw [x, Reps.bls y]; rfl
theorem Reps.one {K : PySem.W.Frag} {F : Hp} {p : PV} {vs : List V} (h : Reps K F [p] vs) : ∃ v, vs = [v] ∧ Rep K F p v := by
  obtain ⟨v, r, rfl, x, y⟩ := h.inv
  rw [y.inv0]
  exact ⟨v, rfl, x⟩
theorem Reps.two {K : PySem.W.Frag} {F : Hp} {p q : PV} {vs : List V} (h : Reps K F [p, q] vs) : ∃ v w, vs = [v, w] ∧ Rep K F p v ∧ Rep K F q w := by
  obtain ⟨v, r, rfl, x, y⟩ := h.inv
  obtain ⟨w, rfl, z⟩ := y.one
  exact ⟨v, w, rfl, x, z⟩
/-! len -/
def pvLen : PV → Option PV
  | .lst xs => some (.int xs.length)
  | .tup xs => some (.int xs.length)
  | .scr ns => some (.int ns.length)
  | .str z => if z.length ≤ sizeLine then some (.int z.length) else none
  | _ => none
def on1 (f : PV → Option PV) : List PV → Option PV
  | [p] => f p
  | _ => none
def rLen (K : PySem.W.Frag) : List V → Hp → VK → Prop := fun xs H Q => (∃ p ys, xs = [.ref p] ∧ (SqL K H p ys ∨ SqT K H p ys) ∧ Q (.int ys.length) H) ∨ (∃ z, xs = [.str z] ∧ z.length ≤ sizeLine ∧ Q (.int z.length) H)
theorem on1_inv {f : PV → Option PV} {ps : List PV} {z : PV} (h : on1 f ps = some z) : ∃ p, ps = [p] ∧ f p = some z := by
  unfold on1 at h; split at h
  · exact ⟨_, rfl, h⟩
  · cases h
theorem len_at {F : Hp} {ρ : Rho} {σ : St} {H : Hp} {v : V} {p z : PV} {Q : VK} (g : Good X.K F ρ σ H) (r : Rep X.K H p v) (h : pvLen p = some z) (hp : Post (repE X.K) X W F ρ σ H (.ok (z, ρ)) Q) : rLen X.K [v] H Q := by
  unfold pvLen at h
  split at h
  · cases h; unfold Rep at r; obtain ⟨a, vs, rfl, h1, h2⟩ := r
    exact .inl ⟨a, vs, rfl, .inl (SqL.of h1), by rw [← h2.length]; exact hp F H _ Stp.refl g Rep.int⟩
  · cases h; unfold Rep at r; obtain ⟨a, vs, rfl, h1, h2⟩ := r
    exact .inl ⟨a, vs, rfl, .inr (SqT.of h1), by rw [← h2.length]; exact hp F H _ Stp.refl g Rep.int⟩
  · rename_i ns
    cases h; unfold Rep at r; obtain ⟨a, rfl, h1⟩ := r
    refine .inl ⟨a, _, rfl, .inl h1, ?_⟩
    rw [List.length_map]; exact hp F H _ Stp.refl g Rep.int
  · split at h
    · rename_i hl; cases h; unfold Rep at r; subst r
      exact .inr ⟨_, rfl, hl, hp F H _ Stp.refl g Rep.int⟩
    · cases h
  · cases h
theorem call_lenA : CallR X (.builtin "len") (rLen X.K) := call_len_seq.or call_len_str
theorem len_op : CallOp X W (rLen X.K) (on1 pvLen) := fun F ρ σ H vs ps z Q g rp e hp => by
  obtain ⟨p, rfl, e⟩ := on1_inv e
  obtain ⟨v, rfl, r⟩ := rp.one
  exact len_at g (Rep.mono g.sub _ _ r) e hp
section
variable {x : Str} {p : Pos} {e : Expr} {m : M}
theorem s_len (hg : Gl X "len") (hm : X.mg "len" = none) (ha : SndE X W e m) (he : starEach [e] X.env = [(false, eval e X.env)] := by rfl) : SndE X W (.Call (.Name "len" p) [e] [] pos) (mCallB (on1 pvLen) [m]) :=
  s_callOf (pe_callB call_lenA hg hm PySem.boot_len pa_wa (by decide) (by decide) he rfl) len_op (sa_cons ha sa_nil he)
def mLenN (i : Nat) : M := fun ρ => Res.of ((slotV ρ i).bind pvLen) ρ
theorem s_lenN {p0 : Pos} (i : Nat) (hg : Gl X "len") (hm : X.mg "len" = none) (h : PE X (.Name x p0) (tVar i)) (he : starEach [.Name x p0] X.env = [(false, eval (.Name x p0) X.env)] := by rfl) : SndE X W (.Call (.Name "len" p) [.Name x p0] [] pos) (mLenN i) := fun F ρ σ H Q g hp => by
  refine we_of (pe_callB call_lenA hg hm PySem.boot_len (pa_cons h pa_nil he) (by decide) (by decide) he rfl) ?_
  unfold mLenN at hp
  obtain ⟨z, ez⟩ := hp.some
  cases e : slotV ρ i with
  | none => rw [e] at ez; cases ez
  | some p =>
    rw [e] at ez hp
    simp only [Option.bind_some] at ez hp
    rw [ez] at hp
    obtain ⟨v, ev, rv⟩ := g.slot e
    exact ⟨v, ev, len_at g rv ez hp⟩
end
end
end Ev

set_option Elab.async false
set_option linter.all false
set_option maxRecDepth 100000
namespace Ev
open PySem L2
section
variable {X : Cx} {W : WX} {pos : Pos}
/-! abs, int -/
def pvAbs : PV → Option PV
  | .int i => some (.int (if i < 0 then -i else i))
  | _ => none
theorem abs_op : CallOp X W (fun xs H Q => ∃ i, xs = [.int i] ∧ Q (.int (if i < 0 then -i else i)) H) (on1 pvAbs) := fun F ρ σ H vs ps z Q g rp e0 hp => by
  obtain ⟨p, rfl, e⟩ := on1_inv e0
  obtain ⟨v, rfl, r⟩ := rp.one
  unfold pvAbs at e; split at e <;> cases e
  unfold Rep at r; subst r
  exact ⟨_, rfl, hp F H _ Stp.refl g Rep.int⟩
def pvInt : PV → Option PV
  | .int i => some (.int i)
  | .bl b => some (.int (if b then 1 else 0))
  | _ => none
theorem int_op : CallOp X W (fun xs H Q => (∃ i, xs = [.int i] ∧ Q (.int i) H) ∨ ∃ k, xs = [.bl k] ∧ Q (.int (if k then 1 else 0)) H) (on1 pvInt) := fun F ρ σ H vs ps z Q g rp e0 hp => by
  obtain ⟨p, rfl, e⟩ := on1_inv e0
  obtain ⟨v, rfl, r⟩ := rp.one
  unfold pvInt at e; split at e <;> cases e
  · unfold Rep at r; subst r
    exact .inl ⟨_, rfl, hp F H _ Stp.refl g Rep.int⟩
  · unfold Rep at r; subst r
    exact .inr ⟨_, rfl, hp F H _ Stp.refl g Rep.int⟩
/-! max, min, sum, all, any -/
def maxL : List Int → Option Int
  | [] => none
  | x :: r => some (r.foldl max x)
def minL : List Int → Option Int
  | [] => none
  | x :: r => some (r.foldl min x)
theorem foldl_max_spec : ∀ (r : List Int) (x : Int), r.foldl max x ∈ x :: r ∧ ∀ y ∈ x :: r, y ≤ r.foldl max x
  | [], x => by simp
  | y :: r, x => by
    obtain ⟨h1, h2⟩ := foldl_max_spec r (max x y)
    simp only [List.foldl_cons]
    constructor
    · rcases List.mem_cons.mp h1 with h | h
      · rw [h]
        by_cases hh : y ≤ x
        · rw [Int.max_eq_left (by omega)]; exact List.mem_cons_self
        · rw [Int.max_eq_right (by omega)]; exact List.mem_cons_of_mem _ List.mem_cons_self
      · exact List.mem_cons_of_mem _ (List.mem_cons_of_mem _ h)
    · intro z hz
      have hm := h2 (max x y) List.mem_cons_self
      rcases List.mem_cons.mp hz with h | h
      · subst h; have := Int.le_max_left z y; omega
      · rcases List.mem_cons.mp h with h | h
        · subst h; have := Int.le_max_right x z; omega
        · exact h2 z (List.mem_cons_of_mem _ h)
theorem foldl_min_spec : ∀ (r : List Int) (x : Int), r.foldl min x ∈ x :: r ∧ ∀ y ∈ x :: r, r.foldl min x ≤ y
  | [], x => by simp
  | y :: r, x => by
    obtain ⟨h1, h2⟩ := foldl_min_spec r (min x y)
    simp only [List.foldl_cons]
    constructor
    · rcases List.mem_cons.mp h1 with h | h
      · rw [h]
        by_cases hh : x ≤ y
        · rw [Int.min_eq_left (by omega)]; exact List.mem_cons_self
        · rw [Int.min_eq_right (by omega)]; exact List.mem_cons_of_mem _ List.mem_cons_self
      · exact List.mem_cons_of_mem _ (List.mem_cons_of_mem _ h)
    · intro z hz
      have hm := h2 (min x y) List.mem_cons_self
      rcases List.mem_cons.mp hz with h | h
      · subst h; have := Int.min_le_left z y; omega
      · rcases List.mem_cons.mp h with h | h
        · subst h; have := Int.min_le_right x z; omega
        · exact h2 z (List.mem_cons_of_mem _ h)
def pvMax : List PV → Option PV
  | [.int i, .int j] => some (.int (max i j))
  | [.lst xs] => (intsP xs).bind fun ns => (maxL ns).map .int
  | _ => none
def pvMin : List PV → Option PV
  | [.int i, .int j] => some (.int (min i j))
  | [.lst xs] => (intsP xs).bind fun ns => (minL ns).map .int
  | _ => none
theorem max_op : CallOp X W (fun xs H Q => (∃ i j, xs = [.int i, .int j] ∧ Q (.int (if j > i then j else i)) H) ∨ rMax X.K xs H Q) pvMax := fun F ρ σ H vs ps z Q g rp e hp => by
  unfold pvMax at e
  split at e
  · rename_i i j
    cases e
    obtain ⟨v, w, rfl, r1, r2⟩ := rp.two
    unfold Rep at r1 r2; subst r1 r2
    refine .inl ⟨i, j, rfl, ?_⟩
    have : (if j > i then j else i) = max i j := by
      by_cases h : j > i
      · rw [if_pos h, Int.max_eq_right (by omega)]
      · rw [if_neg h, Int.max_eq_left (by omega)]
    rw [this]
    exact hp F H _ Stp.refl g Rep.int
  · rename_i xs
    cases e1 : intsP xs with
    | none => rw [e1] at e; cases e
    | some ns =>
      rw [e1] at e
      cases ns with
      | nil => cases e
      | cons n r =>
        cases e
        obtain ⟨v, rfl, r1⟩ := rp.one
        rw [intsP_of e1] at r1
        unfold Rep at r1
        obtain ⟨a, ws, rfl, h1, h2⟩ := r1
        rw [Reps.ints] at h2
        subst h2
        obtain ⟨f1, f2⟩ := foldl_max_spec r n
        refine .inr ⟨a, n :: r, rfl, SqL.of (g.sub _ _ h1), by simp, fun m hm hy => ?_⟩
        have : m = r.foldl max n := by
          have a1 := hy _ f1
          have a2 := f2 _ hm
          omega
        rw [this]
        exact hp F H _ Stp.refl g Rep.int
  · cases e
theorem min_op : CallOp X W (fun xs H Q => (∃ i j, xs = [.int i, .int j] ∧ Q (.int (if j < i then j else i)) H) ∨ rMin X.K xs H Q) pvMin := fun F ρ σ H vs ps z Q g rp e hp => by
  unfold pvMin at e
  split at e
  · rename_i i j
    cases e
    obtain ⟨v, w, rfl, r1, r2⟩ := rp.two
    unfold Rep at r1 r2; subst r1 r2
    refine .inl ⟨i, j, rfl, ?_⟩
    have : (if j < i then j else i) = min i j := by
      by_cases h : j < i
      · rw [if_pos h, Int.min_eq_right (by omega)]
      · rw [if_neg h, Int.min_eq_left (by omega)]
    rw [this]
    exact hp F H _ Stp.refl g Rep.int
  · rename_i xs
    cases e1 : intsP xs with
    | none => rw [e1] at e; cases e
    | some ns =>
      rw [e1] at e
      cases ns with
      | nil => cases e
      | cons n r =>
        cases e
        obtain ⟨v, rfl, r1⟩ := rp.one
        rw [intsP_of e1] at r1
        unfold Rep at r1
        obtain ⟨a, ws, rfl, h1, h2⟩ := r1
        rw [Reps.ints] at h2
        subst h2
        obtain ⟨f1, f2⟩ := foldl_min_spec r n
        refine .inr ⟨a, n :: r, rfl, SqL.of (g.sub _ _ h1), by simp, fun m hm hy => ?_⟩
        have : m = r.foldl min n := by
          have a1 := hy _ f1
          have a2 := f2 _ hm
          omega
        rw [this]
        exact hp F H _ Stp.refl g Rep.int
  · cases e
/-- sum of a tuple of ints -/
def rSumT (K : PySem.W.Frag) : List V → Hp → VK → Prop := fun vs H Q => ∃ (a : Addr) (ns : List Int), vs = [V.ref a] ∧ SqT K H a (ns.map V.int) ∧ Q (.int ns.sum) H
theorem cr_sumT (hc : X.calm = true) : CallR X (.builtin "sum") (rSumT X.K) := by
  intro pins s σ H vs us Q I r h
  obtain ⟨a, ns, rfl, hs, q⟩ := h
  obtain ⟨its, rv, hl, _⟩ := I.tuple hs
  rw [Vals.ref1 r]
  have hi := rv.ints
  have hl' : s.heap.IsTuple a its.toArray := hl
  obtain ⟨xs, hx⟩ := hi.allInts.items
  have hn : numsOf its.toArray.toList = ns := by rw [show its.toArray.toList = its from rfl, hi.numsOf]
  rw [hx] at hl' hn
  rw [nums_intItems] at hn
  refine PySem.W.ktm_sumG (I.ok.hd hc) hl' fun h' tk t' hk => ?_
  rw [preSum_eq, List.take_of_length_le (by simp), hn]
  exact ⟨.int _, H, I.kept hk, ⟨_, rfl⟩, q⟩
def pvSum : PV → Option PV
  | .lst xs => (intsP xs).map fun ns => .int ns.sum
  | .tup xs => (intsP xs).map fun ns => .int ns.sum
  | _ => none
theorem sum_op : CallOp X W (fun xs H Q => rSum X.K xs H Q ∨ rSumT X.K xs H Q) (on1 pvSum) := fun F ρ σ H vs ps z Q g rp e0 hp => by
  obtain ⟨p, rfl, e⟩ := on1_inv e0
  obtain ⟨v, rfl, r⟩ := rp.one
  unfold pvSum at e
  split at e
  · rename_i xs
    cases e1 : intsP xs with
    | none => rw [e1] at e; cases e
    | some ns =>
      rw [e1] at e
      cases e
      rw [intsP_of e1] at r
      unfold Rep at r
      obtain ⟨a, ws, rfl, h1, h2⟩ := r
      rw [Reps.ints] at h2
      subst h2
      exact .inl ⟨a, ns, rfl, SqL.of (g.sub _ _ h1), hp F H _ Stp.refl g Rep.int⟩
  · rename_i xs
    cases e1 : intsP xs with
    | none => rw [e1] at e; cases e
    | some ns =>
      rw [e1] at e
      cases e
      rw [intsP_of e1] at r
      unfold Rep at r
      obtain ⟨a, ws, rfl, h1, h2⟩ := r
      rw [Reps.ints] at h2
      subst h2
      exact .inr ⟨a, ns, rfl, SqT.of (g.sub _ _ h1), hp F H _ Stp.refl g Rep.int⟩
  · cases e
def pvAll : PV → Option PV
  | .lst xs => (blsP xs).map fun bs => .bl (bs.all id)
  | _ => none
def pvAny : PV → Option PV
  | .lst xs => (blsP xs).map fun bs => .bl (bs.any id)
  | _ => none
theorem all_op : CallOp X W (rAll X.K) (on1 pvAll) := fun F ρ σ H vs ps z Q g rp e0 hp => by
  obtain ⟨p, rfl, e⟩ := on1_inv e0
  obtain ⟨v, rfl, r⟩ := rp.one
  unfold pvAll at e
  split at e
  · rename_i xs
    cases e1 : blsP xs with
    | none => rw [e1] at e; cases e
    | some ns =>
      rw [e1] at e
      cases e
      rw [blsP_of e1] at r
      unfold Rep at r
      obtain ⟨a, ws, rfl, h1, h2⟩ := r
      have := Reps.bls h2
      subst this
      exact ⟨a, ns, rfl, SqL.of (g.sub _ _ h1), hp F H _ Stp.refl g Rep.bl⟩
  · cases e
theorem any_op : CallOp X W (rAny X.K) (on1 pvAny) := fun F ρ σ H vs ps z Q g rp e0 hp => by
  obtain ⟨p, rfl, e⟩ := on1_inv e0
  obtain ⟨v, rfl, r⟩ := rp.one
  unfold pvAny at e
  split at e
  · rename_i xs
    cases e1 : blsP xs with
    | none => rw [e1] at e; cases e
    | some ns =>
      rw [e1] at e
      cases e
      rw [blsP_of e1] at r
      unfold Rep at r
      obtain ⟨a, ws, rfl, h1, h2⟩ := r
      have := Reps.bls h2
      subst this
      exact ⟨a, ns, rfl, SqL.of (g.sub _ _ h1), hp F H _ Stp.refl g Rep.bl⟩
  · cases e
/-! tuple(x), list(x) -/
def pvTuple : PV → Option PV
  | .lst xs => some (.tup xs)
  | .tup xs => some (.tup xs)
  | _ => none
theorem tuple_op : CallOp X W (fun xs H Q => ∃ p ys, xs = [.ref p] ∧ ((SqL X.K H p ys ∧ ∀ l, H l = none → Q (.ref l) (upd H l (.tup ys))) ∨ (SqT X.K H p ys ∧ Q (.ref p) H))) (on1 pvTuple) := fun F ρ σ H vs ps z Q g rp e0 hp => by
  obtain ⟨p, rfl, e⟩ := on1_inv e0
  obtain ⟨v, rfl, r⟩ := rp.one
  unfold pvTuple at e
  split at e
  · cases e
    unfold Rep at r
    obtain ⟨a, ws, rfl, h1, h2⟩ := r
    exact ⟨a, ws, rfl, .inl ⟨SqL.of (g.sub _ _ h1), Post.newT g hp h2⟩⟩
  · cases e
    have r' := r
    unfold Rep at r
    obtain ⟨a, ws, rfl, h1, h2⟩ := r
    exact ⟨a, ws, rfl, .inr ⟨SqT.of (g.sub _ _ h1), hp F H _ Stp.refl g r'⟩⟩
  · cases e
/-- a call that makes a new list -/
def CallOpF (X : Cx) (W : WX) (r : List V → Hp → VK → Prop) (op : List PV → Option (List PV)) : Prop :=
  ∀ (F : Hp) (ρ : Rho) (σ : St) (H : Hp) (vs : List V) (ps : List PV) (z : List PV) (Q : VK), Good X.K F ρ σ H → Reps X.K F ps vs → op ps = some z → Post (repF X.K σ) X W F ρ σ H (.ok (z, ρ)) Q → r vs H Q
def mCallF (op : List PV → Option (List PV)) (ms : List M) : MF := fun ρ => (mArgs ms ρ).bnd fun ps ρ1 => Res.of (op ps) ρ1
theorem f_callOf {e' : Expr} {es : List Expr} {ms : List M} {r : List V → Hp → VK → Prop} {op : List PV → Option (List PV)} (hpe : PE X e' (tCB r (WA X es))) (ho : CallOpF X W r op) (ha : SndA X W es (mArgs ms)) : SndF X W e' (mCallF op ms) := fun F ρ σ H Q g hp => by
  refine we_of hpe ?_
  refine ha.thenL g hp fun F1 ρ1 H1 ps vs st g1 rp len hp1 => ?_
  obtain ⟨z, ez⟩ := hp1.some
  rw [ez] at hp1
  exact ho F1 ρ1 σ H1 vs ps z Q g1 rp ez hp1
def pvList : List PV → Option (List PV)
  | [.lst xs] => some xs
  | [.tup xs] => some xs
  | [.scr ns] => some (ns.map .int)
  | _ => none
theorem list_op : CallOpF X W (fun xs H Q => ∃ p ys, xs = [.ref p] ∧ (SqL X.K H p ys ∨ SqT X.K H p ys) ∧ ∀ l, H l = none → Q (.ref l) (upd H l (.lst ys))) pvList := fun F ρ σ H vs ps z Q g rp e hp => by
  unfold pvList at e
  split at e
  · cases e
    obtain ⟨v, rfl, r⟩ := rp.one
    unfold Rep at r
    obtain ⟨a, ws, rfl, h1, h2⟩ := r
    exact ⟨a, ws, rfl, .inl (SqL.of (g.sub _ _ h1)), Post.newF g hp h2⟩
  · cases e
    obtain ⟨v, rfl, r⟩ := rp.one
    unfold Rep at r
    obtain ⟨a, ws, rfl, h1, h2⟩ := r
    exact ⟨a, ws, rfl, .inr (SqT.of (g.sub _ _ h1)), Post.newF g hp h2⟩
  · cases e
    obtain ⟨v, rfl, r⟩ := rp.one
    unfold Rep at r
    obtain ⟨a, rfl, h1⟩ := r
    exact ⟨a, _, rfl, .inl (g.sub.seq h1), Post.newF g hp (Reps.ints.mpr rfl)⟩
  · cases e
section
variable {p : Pos} {e e2 : Expr} {m m' : M}
theorem s_abs (hg : Gl X "abs") (hm : X.mg "abs" = none) (ha : SndE X W e m) (he : starEach [e] X.env = [(false, eval e X.env)] := by rfl) : SndE X W (.Call (.Name "abs" p) [e] [] pos) (mCallB (on1 pvAbs) [m]) :=
  s_callOf (pe_callB call_abs hg hm (by decide +kernel) pa_wa (by decide) (by decide) he rfl) abs_op (sa_cons ha sa_nil he)
theorem s_int' (hg : Gl X "int") (hm : X.mg "int" = none) (ha : SndE X W e m) (he : starEach [e] X.env = [(false, eval e X.env)] := by rfl) : SndE X W (.Call (.Name "int" p) [e] [] pos) (mCallB (on1 pvInt) [m]) :=
  s_callOf (pe_callTy call_int1 hg hm (by decide +kernel) pa_wa (by decide) (by decide) he rfl) int_op (sa_cons ha sa_nil he)
theorem s_max1 (hc : X.calm = true) (hg : Gl X "max") (hm : X.mg "max" = none) (ha : SndE X W e m) (he : starEach [e] X.env = [(false, eval e X.env)] := by rfl) : SndE X W (.Call (.Name "max" p) [e] [] pos) (mCallB pvMax [m]) :=
  s_callOf (pe_callB ((call_max2 hc).or (cr_max hc)) hg hm (by decide +kernel) pa_wa (by decide) (by decide) he rfl) max_op (sa_cons ha sa_nil he)
theorem s_min1 (hc : X.calm = true) (hg : Gl X "min") (hm : X.mg "min" = none) (ha : SndE X W e m) (he : starEach [e] X.env = [(false, eval e X.env)] := by rfl) : SndE X W (.Call (.Name "min" p) [e] [] pos) (mCallB pvMin [m]) :=
  s_callOf (pe_callB ((call_min2 hc).or (cr_min hc)) hg hm (by decide +kernel) pa_wa (by decide) (by decide) he rfl) min_op (sa_cons ha sa_nil he)
theorem s_max2 (hc : X.calm = true) (hg : Gl X "max") (hm : X.mg "max" = none) (ha : SndE X W e m) (hb : SndE X W e2 m') (he : starEach [e, e2] X.env = (false, eval e X.env) :: starEach [e2] X.env := by rfl) (he2 : starEach [e2] X.env = [(false, eval e2 X.env)] := by rfl)
    (hpl : (backTo pos (starEach [e2] X.env)).any (·.1) = false := by rfl) : SndE X W (.Call (.Name "max" p) [e, e2] [] pos) (mCallB pvMax [m, m']) :=
  s_callOf (pe_callB ((call_max2 hc).or (cr_max hc)) hg hm (by decide +kernel) pa_wa (by decide) (by decide) he hpl) max_op (sa_cons ha (sa_cons hb sa_nil he2) he)
theorem s_min2 (hc : X.calm = true) (hg : Gl X "min") (hm : X.mg "min" = none) (ha : SndE X W e m) (hb : SndE X W e2 m') (he : starEach [e, e2] X.env = (false, eval e X.env) :: starEach [e2] X.env := by rfl) (he2 : starEach [e2] X.env = [(false, eval e2 X.env)] := by rfl)
    (hpl : (backTo pos (starEach [e2] X.env)).any (·.1) = false := by rfl) : SndE X W (.Call (.Name "min" p) [e, e2] [] pos) (mCallB pvMin [m, m']) :=
  s_callOf (pe_callB ((call_min2 hc).or (cr_min hc)) hg hm (by decide +kernel) pa_wa (by decide) (by decide) he hpl) min_op (sa_cons ha (sa_cons hb sa_nil he2) he)
theorem s_sum (hc : X.calm = true) (hg : Gl X "sum") (hm : X.mg "sum" = none) (ha : SndE X W e m) (he : starEach [e] X.env = [(false, eval e X.env)] := by rfl) : SndE X W (.Call (.Name "sum" p) [e] [] pos) (mCallB (on1 pvSum) [m]) :=
  s_callOf (pe_callB ((cr_sum hc).or (cr_sumT hc)) hg hm (by decide +kernel) pa_wa (by decide) (by decide) he rfl) sum_op (sa_cons ha sa_nil he)
theorem s_all (hc : X.calm = true) (hg : Gl X "all") (hm : X.mg "all" = none) (ha : SndE X W e m) (he : starEach [e] X.env = [(false, eval e X.env)] := by rfl) : SndE X W (.Call (.Name "all" p) [e] [] pos) (mCallB (on1 pvAll) [m]) :=
  s_callOf (pe_callB (cr_all hc) hg hm (by decide +kernel) pa_wa (by decide) (by decide) he rfl) all_op (sa_cons ha sa_nil he)
theorem s_any (hc : X.calm = true) (hg : Gl X "any") (hm : X.mg "any" = none) (ha : SndE X W e m) (he : starEach [e] X.env = [(false, eval e X.env)] := by rfl) : SndE X W (.Call (.Name "any" p) [e] [] pos) (mCallB (on1 pvAny) [m]) :=
  s_callOf (pe_callB (cr_any hc) hg hm (by decide +kernel) pa_wa (by decide) (by decide) he rfl) any_op (sa_cons ha sa_nil he)
theorem s_tuple (hg : Gl X "tuple") (hm : X.mg "tuple" = none) (ha : SndE X W e m) (he : starEach [e] X.env = [(false, eval e X.env)] := by rfl) : SndE X W (.Call (.Name "tuple" p) [e] [] pos) (mCallB (on1 pvTuple) [m]) :=
  s_callOf (pe_callTy call_tuple_of hg hm (by decide +kernel) pa_wa (by decide) (by decide) he rfl) tuple_op (sa_cons ha sa_nil he)
theorem f_list (hg : Gl X "list") (hm : X.mg "list" = none) (ha : SndE X W e m) (he : starEach [e] X.env = [(false, eval e X.env)] := by rfl) : SndF X W (.Call (.Name "list" p) [e] [] pos) (mCallF pvList [m]) :=
  f_callOf (pe_callTy call_list_of hg hm (by decide +kernel) pa_wa (by decide) (by decide) he rfl) list_op (sa_cons ha sa_nil he)
theorem s_list (hg : Gl X "list") (hm : X.mg "list" = none) (ha : SndE X W e m) (he : starEach [e] X.env = [(false, eval e X.env)] := by rfl) : SndE X W (.Call (.Name "list" p) [e] [] pos) (mFrz (mCallF pvList [m])) := (f_list hg hm ha he).snd
end
/-! isinstance -/
inductive Ty where
  | non | bool | int | str | tuple | list | dict
  deriving DecidableEq
def pvTy : PV → Option Ty
  | .non => some .non
  | .bl _ => some .bool
  | .int _ => some .int
  | .str _ => some .str
  | .tup _ => some .tuple
  | .lst _ => some .list
  | .scr _ => some .list
  | .dic _ _ => some .dict
  | .ty _ => none
def Ty.nm : Ty → String
  | .non => "NoneType" | .bool => "bool" | .int => "int" | .str => "str" | .tuple => "tuple" | .list => "list" | .dict => "dict"
def tyIs (t : Ty) (n : String) : Option Bool :=
  if n = "int" then some (decide (t = .int) || decide (t = .bool))
  else if n = "bool" then some (decide (t = .bool))
  else if n = "str" then some (decide (t = .str))
  else if n = "tuple" then some (decide (t = .tuple))
  else if n = "list" then some (decide (t = .list))
  else none
theorem tyIs_kit {t : Ty} {n : String} {b : Bool} (h : tyIs t n = some b) : kitB t.nm n = some b := by
  unfold tyIs at h
  split at h
  · rename_i e; subst e; cases t <;> (simp at h; subst h; decide +kernel)
  split at h
  · rename_i e; subst e; cases t <;> (simp at h; subst h; decide +kernel)
  split at h
  · rename_i e; subst e; cases t <;> (simp at h; subst h; decide +kernel)
  split at h
  · rename_i e; subst e; cases t <;> (simp at h; subst h; decide +kernel)
  split at h
  · rename_i e; subst e; cases t <;> (simp at h; subst h; decide +kernel)
  · cases h
theorem pvTy_tyX {K : PySem.W.Frag} {F : Hp} {p : PV} {v : V} {t : Ty} (r : Rep K F p v) (h : pvTy p = some t) (hs : ∀ ns, p ≠ .scr ns) : TyX K F v (.type t.nm) := by
  cases p with
  | non => unfold Rep at r; subst r; cases h; exact .base .non
  | bl b => unfold Rep at r; subst r; cases h; exact .base (.bl b)
  | int b => unfold Rep at r; subst r; cases h; exact .base (.int b)
  | str b => unfold Rep at r; subst r; cases h; exact .base (.str b)
  | tup xs => unfold Rep at r; obtain ⟨a, vs, rfl, h1, h2⟩ := r; cases h; exact .base (.tup h1)
  | lst xs => unfold Rep at r; obtain ⟨a, vs, rfl, h1, h2⟩ := r; cases h; exact .base (.lst h1)
  | dic ks xs => unfold Rep at r; obtain ⟨a, vs, rfl, h1, h2⟩ := r; cases h; exact .base (.dK h1)
  | scr ns => exact absurd rfl (hs ns)
  | ty n => cases h
def tysP : List PV → Option (List String)
  | [] => some []
  | .ty n :: r => (tysP r).map (n :: ·)
  | _ :: _ => none
def tyAny (t : Ty) : List String → Option Bool
  | [] => some false
  | n :: r => (tyIs t n).bind fun b => if b then some true else tyAny t r
def isScr : PV → Bool
  | .scr _ => true
  | _ => false
def pvIsI : List PV → Option PV
  | [p, .ty n] => if isScr p then none else (pvTy p).bind fun t => (tyIs t n).map .bl
  | [p, .tup ts] => if isScr p then none else (pvTy p).bind fun t => (tysP ts).bind fun ns => (tyAny t ns).map .bl
  | _ => none
theorem tysP_of {K : PySem.W.Frag} {F : Hp} : ∀ {ts : List PV} {ns : List String} {vs : List V}, tysP ts = some ns → Reps K F ts vs → Paired ClsV vs (ns.map Value.type)
  | [], ns, vs, h, r => by cases h; rw [r.inv0]; exact .nil
  | x :: ts, ns, vs, h, r => by
    obtain ⟨v, ws, rfl, a, b⟩ := r.inv
    cases x <;> simp only [tysP] at h <;> first | (cases h; done) | skip
    rename_i n
    cases e : tysP ts with
    | none => rw [e] at h; cases h
    | some ms =>
      rw [e] at h; cases h
      unfold Rep at a
      subst a
      exact .cons (.ty n) (tysP_of e b)
theorem tyAny_kit {K : PySem.W.Frag} {t : Ty} : ∀ {ns : List String} {b : Bool}, tyAny t ns = some b → PySem.W.kitAny K (.type t.nm) (ns.map Value.type) = some b
  | [], b, h => by cases h; exact kitAny_nil
  | n :: ns, b, h => by
    unfold tyAny at h
    cases e : tyIs t n with
    | none => rw [e] at h; cases h
    | some c =>
      rw [e] at h
      simp only [Option.bind_some] at h
      refine kitAny_cons (kit_ty (tyIs_kit e)) (fun hc => ?_) (fun hc => ?_)
      · subst hc
        rw [if_neg (by decide)] at h
        exact tyAny_kit h
      · subst hc
        rw [if_pos rfl] at h
        cases h; rfl
theorem isi_op : CallOp X W (fun vs H Q => rIsi X.K vs H Q ∨ rIsiT X.K vs H Q) pvIsI := fun F ρ σ H vs ps z Q g rp e hp => by
  have ns_of : ∀ {p : PV}, ¬ isScr p = true → ∀ ns, p ≠ .scr ns := fun {p} h ns e => h (by rw [e]; rfl)
  unfold pvIsI at e
  split at e
  · rename_i p n
    split at e
    · cases e
    · rename_i hs
      cases e1 : pvTy p with
      | none => rw [e1] at e; cases e
      | some t =>
        rw [e1] at e
        simp only [Option.bind_some] at e
        cases e2 : tyIs t n with
        | none => rw [e2] at e; cases e
        | some b =>
          rw [e2] at e
          cases e
          obtain ⟨v, w, rfl, r1, r2⟩ := rp.two
          unfold Rep at r2
          subst r2
          exact .inl ⟨v, .ty n, .type t.nm, .type n, b, rfl, .ty n, pvTy_tyX (Rep.mono g.sub _ _ r1) e1 (ns_of hs), kit_ty (tyIs_kit e2), hp F H _ Stp.refl g Rep.bl⟩
  · rename_i p ts
    split at e
    · cases e
    · rename_i hs
      cases e1 : pvTy p with
      | none => rw [e1] at e; cases e
      | some t =>
        rw [e1] at e
        simp only [Option.bind_some] at e
        cases e2 : tysP ts with
        | none => rw [e2] at e; cases e
        | some ns =>
          rw [e2] at e
          simp only [Option.bind_some] at e
          cases e3 : tyAny t ns with
          | none => rw [e3] at e; cases e
          | some b =>
            rw [e3] at e
            cases e
            obtain ⟨v, w, rfl, r1, r2⟩ := rp.two
            unfold Rep at r2
            obtain ⟨a, ws, rfl, h1, h2⟩ := r2
            exact .inr ⟨v, a, ws, .type t.nm, _, b, rfl, g.sub _ _ h1, tysP_of e2 h2, pvTy_tyX (Rep.mono g.sub _ _ r1) e1 (ns_of hs), tyAny_kit e3, hp F H _ Stp.refl g Rep.bl⟩
  · cases e
theorem s_isi {p : Pos} {e e2 : Expr} {m m' : M} (hg : Gl X "isinstance") (hm : X.mg "isinstance" = none) (ha : SndE X W e m) (hb : SndE X W e2 m') (he : starEach [e, e2] X.env = (false, eval e X.env) :: starEach [e2] X.env := by rfl) (he2 : starEach [e2] X.env = [(false, eval e2 X.env)] := by rfl)
    (hpl : (backTo pos (starEach [e2] X.env)).any (·.1) = false := by rfl) : SndE X W (.Call (.Name "isinstance" p) [e, e2] [] pos) (mCallB pvIsI [m, m']) :=
  s_callOf (pe_callB (call_isi.or call_isiT) hg hm (by decide +kernel) pa_wa (by decide) (by decide) he hpl) isi_op (sa_cons ha (sa_cons hb sa_nil he2) he)
/-! slices -/
def cutP {α : Type} (xs : List α) (lo hi : Option Int) : List α := (xs.drop (HT.sIx xs.length 0 lo)).take (HT.sIx xs.length xs.length hi - HT.sIx xs.length 0 lo)
theorem Reps.cut {K : PySem.W.Frag} {F : Hp} {xs : List PV} {vs : List V} (r : Reps K F xs vs) (lo hi : Option Int) : Reps K F (cutP xs lo hi) (cutV vs lo hi) := by
  unfold cutP cutV
  rw [r.length]
  exact (r.drop _).take _
def pvCut : PV → Option Int → Option Int → Option PV
  | .lst xs, lo, hi => some (.lst (cutP xs lo hi))
  | .tup xs, lo, hi => some (.tup (cutP xs lo hi))
  | .scr ns, lo, hi => some (.lst ((cutP ns lo hi).map .int))
  | .str z, lo, hi => if z.length ≤ sizeLine then some (.str (cutS z lo hi)) else none
  | _, _, _ => none
/-- a part of a slice -/
def mPart : Option M → Rho → Res (Option Int × Rho)
  | none => fun ρ => .ok (none, ρ)
  | some m => fun ρ => (m ρ).bnd fun p ρ1 => match p with
    | .int i => .ok (some i, ρ1)
    | _ => .bad
def mCut (m : M) (lo hi : Option M) : M := fun ρ => (m ρ).bnd fun p ρ1 => (mPart lo ρ1).bnd fun l ρ2 => (mPart hi ρ2).bnd fun h ρ3 => Res.of (pvCut p l h) ρ3
/-- a slice's part, by its reading -/
structure SndO (X : Cx) (W : WX) (e : Option Expr) (m : Option M) where
  t : TO
  po : PO X e t
  snd : ∀ {α' β' : Type} {rep' : RepT α' β'} [RepM rep'] {Q' : β' → Hp → Prop} (F : Hp) (ρ : Rho) (σ : St) (H : Hp) (f : Option Int → Rho → Res (α' × Rho)) (R : Option Int → Hp → Prop), Good X.K F ρ σ H → Post rep' X W F ρ σ H ((mPart m ρ).bnd f) Q' →
    (∀ F1 ρ1 H1 l, Stp σ F ρ H F1 ρ1 H1 → Good X.K F1 ρ1 σ H1 → Post rep' X W F1 ρ1 σ H1 (f l ρ1) Q' → R l H1) → t σ H R
def so_none : SndO X W none none := ⟨tNoPart, po_none, fun F ρ σ H f R g hp k => k F ρ H none Stp.refl g hp⟩
def so_some {e : Expr} {m : M} (h : SndE X W e m) : SndO X W (some e) (some m) := ⟨tPart (WE X e), po_some pe_we, fun {α' β' rep' _ Q'} F ρ σ H f R g hp k => by
  have hp' : Post rep' X W F ρ σ H ((m ρ).bnd fun p ρ1 => (match p with | .int i => .ok (some i, ρ1) | _ => .bad : Res (Option Int × Rho)).bnd f) Q' := by
    simp only [mPart] at hp
    cases h1 : m ρ with
    | bad => rw [h1] at hp; exact hp
    | exc x r => rw [h1] at hp; exact hp
    | ok z => obtain ⟨p, ρ1⟩ := z; rw [h1] at hp; exact hp
  refine h.then g hp' fun F1 ρ1 H1 p v st g1 rp hp1 => ?_
  split at hp1
  · unfold Rep at rp
    exact ⟨_, rp, k F1 ρ1 H1 _ st g1 hp1⟩
  · exact hp1.elim⟩
theorem cut_at {F : Hp} {ρ : Rho} {σ : St} {H : Hp} {v : V} {p z : PV} {lo hi : Option Int} {Q : VK} (g : Good X.K F ρ σ H) (r : Rep X.K F p v) (h : pvCut p lo hi = some z) (hp : Post (repE X.K) X W F ρ σ H (.ok (z, ρ)) Q) :
    rSlL X.K v lo hi H Q ∨ (rSlA X.K v lo hi H Q ∨ rSlS v lo hi H Q) := by
  cases p with
  | lst xs =>
    cases h
    unfold Rep at r
    obtain ⟨a, ws, rfl, h1, h2⟩ := r
    exact .inl ⟨a, ws, rfl, SqL.of (g.sub _ _ h1), Post.newL g hp (h2.cut _ _)⟩
  | tup xs =>
    cases h
    have r' := r
    unfold Rep at r
    obtain ⟨a, ws, rfl, h1, h2⟩ := r
    refine .inr (.inl ⟨a, ws, rfl, SqT.of (g.sub _ _ h1), fun hw => ?_, fun _ => Post.newT g hp (h2.cut _ _)⟩)
    have e : cutP xs lo hi = xs := by
      unfold cutP
      rw [h2.length, hw.1, hw.2]
      simp [← h2.length]
    rw [e] at hp
    exact hp F H _ Stp.refl g r'
  | scr ns =>
    cases h
    unfold Rep at r
    obtain ⟨a, rfl, h1⟩ := r
    refine .inl ⟨a, _, rfl, g.sub.seq h1, ?_⟩
    refine Post.newL g hp ?_
    rw [Reps.ints]
    unfold cutV cutP
    rw [List.length_map, List.map_take, List.map_drop]
  | str z' =>
    simp only [pvCut] at h
    split at h
    · rename_i hl
      cases h
      unfold Rep at r
      exact .inr (.inr ⟨_, r, hl, hp F H _ Stp.refl g Rep.str⟩)
    · cases h
  | non => cases h
  | bl _ => cases h
  | int _ => cases h
  | dic _ _ => cases h
  | ty _ => cases h
theorem s_cut {e : Expr} {m : M} {lo hi : Option Expr} {ml mh : Option M} {p2 : Pos} (he : SndE X W e m) (hl : SndO X W lo ml) (hh : SndO X W hi mh) : SndE X W (.Subscript e (.Slice lo hi none p2) pos) (mCut m ml mh) := fun F ρ σ H Q g hp => by
  refine we_of (pe_slice (sl_list.or (sl_tupA.or sl_str)) pe_we hl.po hh.po) ?_
  refine he.then g hp fun F1 ρ1 H1 p v _ g1 rp hp1 => ?_
  refine hl.snd F1 ρ1 σ H1 _ _ g1 hp1 fun F2 ρ2 H2 l st2 g2 hp2 => ?_
  refine hh.snd F2 ρ2 σ H2 _ _ g2 hp2 fun F3 ρ3 H3 h st3 g3 hp3 => ?_
  obtain ⟨z, ez⟩ := hp3.some
  rw [ez] at hp3
  exact cut_at g3 (Rep.mono st3.ff _ _ (Rep.mono st2.ff _ _ rp)) ez hp3
/-- xs[::-1] of a list -/
def pvRevL : PV → Option PV
  | .lst xs => some (.lst xs.reverse)
  | _ => none
theorem s_revL {e : Expr} {m : M} {k : Nat} {p1 p2 p3 : Pos} (he : SndE X W e m) : SndE X W (.Subscript e (.Slice none none (some (.UnaryOp .USub (.Constant (.int 1) k p1) p2)) p3) pos) (m1 pvRevL m) := fun F ρ σ H Q g hp => by
  refine we_of (pe_revL pe_we) ?_
  refine he.then g hp fun F1 ρ1 H1 p v _ g1 rp hp1 => ?_
  obtain ⟨z, ez⟩ := hp1.some
  rw [ez] at hp1
  unfold pvRevL at ez
  split at ez
  · cases ez
    unfold Rep at rp
    obtain ⟨a, ws, rfl, h1, h2⟩ := rp
    exact ⟨a, ws, rfl, SqL.of (g1.sub _ _ h1), Post.newL g1 hp1 h2.reverse⟩
  · cases ez
end
end Ev

set_option Elab.async false
set_option linter.all false
set_option maxRecDepth 100000
set_option maxHeartbeats 2000000
/-! EvR: what a def promises where nothing is being shown (no guard of a repr around it). -/
namespace Ev
open PySem PySem.Spec PyProof.Rows L2
structure FnG (P : Program) (w : World) (K : PySem.W.Frag) (mg : Str → Option Value) (base : Heap) (CX : CXT) (k : Nat) (f : Addr) (fd : FuncData) (ps : List Str) (sp : Sp) : Prop where
  len : ∀ vs H Q E, sp vs H Q E → vs.length = ps.length
  run : ∀ (A : Around) (outer : List Env) (s : Shared) (H : Hp) (args : Args) (us : List Value) (vs : List V) (Q : VK) (E : XK), Room k A → A.guards = some [] → Env0 P w K mg base A outer s H → BindsTo s fd args (ps.zip us) → Vals vs us → sp vs H Q E →
    codeAny (model P w) A (.call (.ref f) args) (CR CX outer P w H s Q E) s
/-- a call of such a def -/
theorem pe_callG {X : Cx} {CX : CXT} {k : Nat} {f : Addr} {fd : FuncData} {ps : List Str} {sp : Sp} {E : L2.St → XK} {x : Str} {p pos : Pos} {e : Expr} {es : List Expr} {t : TA}
    (G : FnG X.prog X.w X.K X.mg X.base CX k f fd ps sp) (room : Room k X.A) (gd : X.A.guards = some []) (hg : Gl X x) (hm : X.mg x = some (.ref f)) (kept : PySem.W.keepIn X.K (.ref f) = true) (bnd : Binds X.K fd ps []) (pass : ∀ σ, PassesAt CX X σ (E σ))
    (args : PA X (e :: es) t) (ndb : (x == ("__debug__" : Str)) = false := by decide) (hs : starEach (e :: es) X.env = (false, eval e X.env) :: starEach es X.env := by rfl) (hpl : (backTo pos (starEach es X.env)).any (·.1) = false := by rfl) :
    PE X (.Call (.Name x p) (e :: es) [] pos) (tCallSD sp [] E t) := by
  refine ⟨fun pins s σ H Q inv h => wpAny_Call_Name_kw (ld_glob inv hg hm ?_ ndb)⟩
  refine PySem.W.callWith_K (h₀ := X.base) inv.ok.mod.kin kept (thn (args.run pos pins s σ H _ inv h) fun us s1 ⟨vs, H1, inv1, rel, q⟩ => ⟨inv1.kIn, ?_⟩) hs hpl
  have rel2 : Vals (vs ++ []) (us ++ []) := rel.append .nil
  have hlen : (us ++ ([] : List Value)).length = ps.length := by rw [← rel2.length]; exact G.len _ _ _ _ q
  refine wpAny_call (codeAny_mono (G.run X.A X.stack s1 H1 ⟨us, []⟩ (us ++ []) (vs ++ []) Q (E σ) room gd inv1.env0 (bnd s1 us inv1.kIn hlen) rel2 q) fun res s' hq => ?_)
  match res, hq with
  | .error exn, hq => exact pass σ pins H1 s1 exn s' inv1 hq
  | .ok (.ret u), hq => exact inv1.after hq
  | .ok .next, hq => exact hq.elim
  | .ok .brk, hq => exact hq.elim
  | .ok .cont, hq => exact hq.elim
/-- a def's promise from its body's -/
theorem fun_okG {P : Program} {w : World} {K : PySem.W.Frag} {mg : Str → Option Value} {base : Heap} {x qual : Str} {st : Stmt} {f : Addr} {fd : FuncData} {N ps : List Str} {k : Nat} {sp : Sp} (F : Fun K x qual st f fd) (S : FnScope N ps (defScope st)) (len : ∀ vs H Q E, sp vs H Q E → vs.length = ps.length)
    (body : ∀ (cdv : Value) (A : Around) (outer : List Env) (s : Shared) (H : Hp) (vs : List V) (Q : VK) (E : XK), Room k (A.deeper (envOfC qual (defScope st) s.heap.objs.size f cdv)) → A.guards = some [] → sp vs H Q E →
      ∃ t, PSs (cxOf (L2.CX P w) P w K mg base N qual (defScope st) f cdv A outer s H E) (defBody st) t ∧ t { nx := fun _ H' => Q .non H', rt := Q } (L2.start N vs) H) : FnG P w K mg base (L2.CX P w) (k + 1) f fd ps sp := by
  obtain ⟨oc, od, kV, doc, pm, an, cdv, ct, osl, rfl, look, code⟩ := F.ex
  refine ⟨len, fun A outer s H args us vs Q E room gd env bnd rel spec => ?_⟩
  have hl := len _ _ _ _ spec
  have inK : K.In s.heap := env.mod.kin.keeps fun b o q => (env.bs b o q).1
  have nolim : s.heap.NoLimit := env.mod.nolimit.keeps fun b o q => (env.bs b o q).1
  have kinds : ∀ y ∈ ps.zip us, (defScope st).names.lookup y.1 = some .local ∨ ((defScope st).names.lookup y.1 = some .cell ∧ ((cellsFrom (s.heap.objs.size + 1) (defScope st).names []).lookup y.1).isSome = true) := fun y hy => by
    have hm : y.1 ∈ ps := (List.of_mem_zip (show (y.1, y.2) ∈ ps.zip us from hy)).1
    exact (S.par y.1 hm).imp id fun q => ⟨q, PySem.W.cellsFrom_some _ _ _ (.inl q)⟩
  refine codeAny_call_function room.depth (inK _ _ look) rfl S.co S.gen rfl (PySem.W.codeRec_of inK code) (bnd _ _ _ _ (wpAny_newFunctionEnv_cells S.kind kinds fun ev he s1 ic => ?_))
  subst he
  refine ⟨nolim.keeps ic.toInCall.keep, codeAny_func ?_⟩
  obtain ⟨t, pt, ht⟩ := body cdv A outer s H vs Q E (room.deeper _) gd spec
  have inv : Inv (cxOf (L2.CX P w) P w K mg base N qual (defScope st) f cdv A outer s H E) [] (L2.start N vs) H s1 := inv_start S room.hd env hl rel ic
  refine wpAny_mono (pt.run [] s1 (L2.start N vs) H _ inv ht) (fun fl s' hs => ?_) fun _ _ z => z
  match fl, hs with
  | .ret u, ⟨v, σ', H', J, rv, q⟩ => exact ⟨v, H', J.os, J.bare, J.base, J.hok, rv, q⟩
  | .next, ⟨σ', H', J, q⟩ => exact ⟨V.non, H', J.os, J.bare, J.base, J.hok, rfl, q⟩
  | .brk, ⟨_, _, _, q⟩ => exact q.elim
  | .cont, ⟨_, _, _, q⟩ => exact q.elim
/-- the law's call, at the top -/
theorem law_callG {P : Program} {w : World} {K : PySem.W.Frag} {mg mb : Str → Option Value} {CX : CXT} {k : Nat} {fa a : Addr} {fd : FuncData} {x : Str} {sp : Sp} {t : Shared} {us : List Value} {ns : List Int}
    (inK : K.In t.heap) (gns : t.heap.Ns mainGlobals mg) (bns : t.heap.Ns builtinsNs mb) (boot : ∀ x : Str, x ≠ "__name__" → mb x = bootBuiltins x) (lim : t.heap.NoLimit) (gens : t.gens = #[])
    (at_a : t.heap.get? a = some { cls := .type "list", data := .seq us.toArray }) (isN : IntsAre us ns) (short : ns.length ≤ sizeLine) (room : Room k callerA)
    (G : ∀ base : Heap, K.In base → base.Ns mainGlobals mg → FnG P w K mg base CX k fa fd [x] sp) (bind : ∀ (s : Shared) (u : Value), BindsTo s fd ⟨[u], []⟩ [(x, u)])
    (spec : ∀ H : Hp, Only H → SqL K H a (ns.map V.int) → sp [.ref a] H (fun v _ => v = .bl true) fun _ _ _ => False)
    (nox : ∀ H e s', CX [] H t (fun _ _ _ => False) e s' → False) :
    codeAny (model P w) callerA (.call (.ref fa) ⟨[.ref a], []⟩) (fun r s' => r = .ok (.ret (.bool true)) ∧ OldK t.heap s'.heap ∧ s'.os = t.os ∧ AllBare s'.gens) t := by
  have rel := vals_ints isN
  have part : ∀ H : Hp, Only H → SqL K H a (ns.map V.int) → HOk P w H t.heap → (∀ b, H b ≠ none → b = a) → (H a ≠ none → K.lookup a = none) →
      codeAny (model P w) callerA (.call (.ref fa) ⟨[.ref a], []⟩) (fun r s' => r = .ok (.ret (.bool true)) ∧ OldK t.heap s'.heap ∧ s'.os = t.os ∧ AllBare s'.gens) t := fun H only sq hok alone free => by
    have still : ∀ {b : Addr} {o : Obj}, t.heap.get? b = some o → H b = none → (hidT t.heap H).get? b = some o := fun e n => hidT_get e n
    have nodict : ∀ {b : Addr} {o : Obj} {es : Array DictEntry} {ep : Nat}, t.heap.get? b = some o → o.data = .dict es ep → H b = none := fun {b o es ep} e d => by
      by_cases hb : H b = none
      · exact hb
      · have := alone b hb
        subst this
        rw [at_a] at e
        cases e
        exact absurd (show Data.seq us.toArray _ = Data.dict es ep from d) (by intro z; cases z)
    have names : ∀ {b : Addr} {m : Str → Option Value}, t.heap.Ns b m → (hidT t.heap H).Ns b m := fun {b m} ⟨o, es, ep, e, d, r⟩ => ⟨o, es, ep, still e (nodict e d), d, r⟩
    have inB : K.In (hidT t.heap H) := fun b o e => still (inK b o e) (by
      by_cases hb : H b = none
      · exact hb
      · have := alone b hb
        subst this
        rw [free hb] at e
        cases e)
    have mod : Mod K mg (hidT t.heap H) := ⟨inB, names gns, ⟨mb, names bns, boot⟩, lim.elim fun mc h => ⟨mc, names h.1, h.2⟩⟩
    have env : Env0 P w K mg (hidT t.heap H) callerA [] t H := ⟨rfl, mod, fun b o e => of_hidT e, Nat.le_of_eq (hidT_size _ _), trivial, fun b hb => absurd (show b ∈ ([] : List Addr) from hb) (by simp), hok, .of_eq gens⟩
    refine codeAny_mono ((G _ inB (names gns)).run callerA [] t H ⟨[.ref a], []⟩ [.ref a] [.ref a] _ _ room rfl env (bind t (.ref a)) (.cons rfl .nil) (spec H only sq)) fun res s' hq => ?_
    match res, hq with
    | .error e, hq => exact (nox H e s' hq).elim
    | .ok .next, hq => exact hq.elim
    | .ok .brk, hq => exact hq.elim
    | .ok .cont, hq => exact hq.elim
    | .ok (.ret u), ⟨v, H', os, bare, un, hok', r', q⟩ =>
      have ev : v = .bl true := q
      subst ev
      obtain rfl : u = Value.bool true := r'
      refine ⟨rfl, OldK.of_keep fun b o e => ?_, os, bare⟩
      rcases only b with z | ⟨ob, xs, z⟩
      · exact un.keep b o e z (by intro z; exact absurd (show b ∈ ([] : List Addr) from z) (by simp)) (by simp)
      · have e1 := (hok b _ z).1
        have e2 := (hok' b _ (un.frzs b ob _ z)).1
        rw [e] at e1
        cases e1
        exact e2
  cases hk : K.lookup a with
  | some o =>
    have e := inK a o hk
    rw [at_a] at e
    cases e
    have seq : SqL K (fun _ => none) a (ns.map V.int) := .inr ⟨_, us.toArray, _, hk, rfl, rfl, rfl, by rw [List.size_toArray, isN.length]; exact short, by simpa using rel⟩
    exact part (fun _ => none) (fun _ => .inl rfl) seq (fun b u z => absurd (show (none : Option HO) = some u from z) (by intro q; cases q)) (fun b z => absurd rfl z) fun z => absurd rfl z
  | none =>
    have one : ∀ b, (if b = a then some (HO.frz { cls := .type "list", data := .seq us.toArray } (.lst (ns.map V.int))) else none) ≠ none → b = a := fun b z => by
      by_cases hb : b = a
      · exact hb
      · exact absurd (if_neg hb) z
    refine part (fun b => if b = a then some (.frz { cls := .type "list", data := .seq us.toArray } (.lst (ns.map V.int))) else none) (fun b => ?_) (.inl (.inr ⟨{ cls := .type "list", data := .seq us.toArray }, if_pos rfl⟩)) (fun b u z => ?_) one fun _ => hk
    · by_cases hb : b = a
      · exact .inr ⟨_, _, if_pos hb⟩
      · exact .inl (if_neg hb)
    · have hb : b = a := one b (by have z2 : (if b = a then some (HO.frz { cls := .type "list", data := .seq us.toArray } (.lst (ns.map V.int))) else none) = some u := z; rw [z2]; simp)
      have z3 := (if_pos hb).symm.trans z
      cases z3
      subst hb
      exact ⟨at_a, by rw [List.length_map]; exact short, us, _, rel, at_a⟩
/-- a law's end -/
theorem walk_G {l : PySem.W.OpenLaw} {n k : Nat} {q : Program} {loose : List Str} {XP : (Str → Option Value) → Heap → Prop} {YP : World → Heap → Prop} {d : DefRec} {CX : CXT} {x : Str}
    (most : l.most = some n) (short : n ≤ sizeLine) (nodef : d.params.defaults = []) (room : Room k callerA)
    (G : ∀ (w : World) (mg : Str → Option Value) (fa : Addr) (h : Heap), YP w h → h.Ns mainGlobals mg → mg d.name = some (.ref fa) →
      ∃ (K : PySem.W.Frag) (fd : FuncData) (sp : Sp), K.In h ∧ (∀ (s : Shared) (u : Value), BindsTo s fd ⟨[u], []⟩ [(x, u)]) ∧
        (∀ (H : Hp) (a : Addr) (ns : List Int), ns.length ≤ n → Only H → SqL K H a (ns.map V.int) → sp [.ref a] H (fun v _ => v = .bl true) fun _ _ _ => False) ∧
        ∀ base : Heap, K.In base → base.Ns mainGlobals mg → FnG l.prog w K mg base CX k fa fd [x] sp)
    (nox : ∀ (H : Hp) (s : Shared) (e : Value) (s' : Shared), CX [] H s (fun _ _ _ => False) e s' → False) :
    PySem.W.WalkO q loose XP YP l.row.toRowW d [] (fun f vs => PySem.call f vs) :=
  Att.attach_call most nodef fun w _ t mg mb fa o pm cd doc a us ns gr y _ _ _ hm obj isN hl gens => by
    obtain ⟨K, fd, sp, inK, bind, spec, run⟩ := G w mg fa _ y gr.T.g hm
    exact law_callG inK gr.T.g gr.T.b gr.T.builtins gr.T.nolimit gens obj isN (Nat.le_trans hl short) room run bind (fun H only sq => spec H a ns hl only sq) fun H e s' => nox H t e s'
end Ev

set_option Elab.async false
set_option linter.all false
set_option maxRecDepth 100000
namespace Ev
open PySem L2
/-! ### calls of the text's own defs -/
inductive Ret where
  | ok (p : PV) | exc (x : Exc) | bad
/-- what is known for good from now on and wasn't is new -/
def NewF (H F F' : Hp) : Prop := ∀ a o, H a = some o → F a = none → F' a = none
/-- a def that changes nothing: its value by its arguments' -/
abbrev FP := List PV → Ret
def spP (K : PySem.W.Frag) (mg : Str → Option Value) (n : Nat) (f : FP) : Sp := fun vs H Q E => vs.length = n ∧ ∃ F ps, Same F H ∧ Reps K F ps vs ∧ (match f ps with
  | .ok p => ∀ F' H' v, Same F F' → Same F' H' → Same H H' → NewF H F F' → Rep K F' p v → Q v H'
  | .exc x => ∀ F' H' cls d, Same F F' → Same F' H' → Same H H' → NewF H F F' → ExcAt K mg F' x cls d → E cls d H'
  | .bad => False)
/-- a def whose first argument is a list that it changes -/
inductive RetB where
  | ok (p : PV) (ys : List PV) | exc (x : Exc) (ys : List PV) | bad
abbrev FB := List PV → List PV → RetB
/-- all but b is as it was -/
def SameBut (b : Addr) (H H' : Hp) : Prop := ∀ q o, q ≠ b → H q = some o → H' q = some o
def NewFB (b : Addr) (H F F' : Hp) : Prop := ∀ a o, a ≠ b → H a = some o → F a = none → F' a = none
def spB (K : PySem.W.Frag) (mg : Str → Option Value) (n : Nat) (f : FB) : Sp := fun vs H Q E => vs.length = n + 1 ∧ ∃ F b bs xs ps rest, vs = .ref b :: rest ∧ Same F H ∧ F b = none ∧ H b = some (.lst bs) ∧ Reps K F xs bs ∧ Reps K F ps rest ∧ (match f xs ps with
  | .ok p ys => ∀ F' H' v bs', Same F F' → Same F' H' → F' b = none → H' b = some (.lst bs') → Reps K F' ys bs' → SameBut b H H' → NewFB b H F F' → Rep K F' p v → Q v H'
  | .exc x ys => ∀ F' H' cls d bs', Same F F' → Same F' H' → F' b = none → H' b = some (.lst bs') → Reps K F' ys bs' → SameBut b H H' → NewFB b H F F' → ExcAt K mg F' x cls d → E cls d H'
  | .bad => False)
/-- a def whose value is a new list of the caller's own -/
inductive RetF where
  | ok (xs : List PV) | exc (x : Exc) | bad
abbrev FF := List PV → RetF
def spF (K : PySem.W.Frag) (mg : Str → Option Value) (n : Nat) (f : FF) : Sp := fun vs H Q E => vs.length = n ∧ ∃ F ps, Same F H ∧ Reps K F ps vs ∧ (match f ps with
  | .ok xs => ∀ F' H' a ws, Same F F' → Same F' H' → Same H H' → NewF H F F' → H a = none → F' a = none → H' a = some (.lst ws) → Reps K F' xs ws → Q (.ref a) H'
  | .exc x => ∀ F' H' cls d, Same F F' → Same F' H' → Same H H' → NewF H F F' → ExcAt K mg F' x cls d → E cls d H'
  | .bad => False)
/-- what a place in the text is known to be in -/
structure Ctx (X : Cx) (W : WX) : Prop where
  tk : Takes X W
  own : PassesOwn (model X.prog X.w) X.A X.env X.xe
  calm : X.calm = true
  nd : X.N.Nodup
  hu : X.A.units + 64 < cLine
  gd : X.A.guards = some []
abbrev W0 : WX := fun _ _ _ _ => False
theorem Ctx.blk {X : Cx} {W : WX} (c : Ctx X W) (s : Shared) (H : Hp) (scope : Scope) (env : Env) (fp : List Addr) : Ctx (X.blk s H scope env fp) W0 :=
  ⟨takes0, PassesOwn.never, c.calm, c.nd, c.hu, c.gd⟩
section
variable {X : Cx} {W : WX} {pos : Pos}
/-- behind a call that changed the heap by new things alone -/
theorem Good.after {K : PySem.W.Frag} {F F' H H' : Hp} {ρ : Rho} {σ : St} (g : Good K F ρ σ H) (ff : Same F F') (fh : Same F' H') (hh : Same H H') (nw : NewF H F F') : Good K F' ρ σ H' ∧ Stp σ F ρ H F' ρ H' := by
  refine ⟨⟨fh, g.len, fun i p e => ?_, fun i xs e => ?_, g.apart⟩, ⟨ff, fun _ xs e => ⟨xs, e⟩, fun q o e _ => hh q o e, fun q o e f _ => nw q o e f, fun q e => hh.free e⟩⟩
  · obtain ⟨v, e1, e2⟩ := g.val i p e
    exact ⟨v, e1, Rep.mono ff _ _ e2⟩
  · obtain ⟨a, vs, e1, e2, e3, e4⟩ := g.own i xs e
    exact ⟨a, vs, e1, nw a _ e3 e2, hh _ _ e3, Reps.mono ff _ _ e4⟩
theorem Good.afterB {K : PySem.W.Frag} {F F' H H' : Hp} {ρ : Rho} {σ : St} {i : Nat} {b : Addr} {xs ys : List PV} {bs : List V} (g : Good K F ρ σ H) (hi : ρ[i]? = some (.own xs)) (hs : σ[i]? = some (some (.ref b))) (ff : Same F F') (fh : Same F' H') (fb : F' b = none) (hb : H' b = some (.lst bs)) (rb : Reps K F' ys bs) (hh : SameBut b H H') (nw : NewFB b H F F') :
    Good K F' (ρ.set i (.own ys)) σ H' ∧ Stp σ F ρ H F' (ρ.set i (.own ys)) H' := by
  have get : ∀ {m : Nat} {us' : List PV}, (ρ.set i (.own ys))[m]? = some (.own us') → ∃ us'', ρ[m]? = some (.own us'') := fun {m us'} e => by
    rcases get_set e with ⟨rfl, z⟩ | ⟨_, z⟩
    · exact ⟨xs, hi⟩
    · exact ⟨_, z⟩
  refine ⟨⟨fh, by rw [List.length_set]; exact g.len, fun j p e => ?_, fun j zs e => ?_, fun j k zs ws c f1 f2 f3 f4 => ?_⟩, ⟨ff, fun _ _ e => get e, fun q o e n => ?_, fun q o e f n => ?_, fun q e => ?_⟩⟩
  · rcases get_set e with ⟨rfl, z⟩ | ⟨_, z⟩
    · cases z
    · obtain ⟨v, e1, e2⟩ := g.val j p z
      exact ⟨v, e1, Rep.mono ff _ _ e2⟩
  · rcases get_set e with ⟨rfl, z⟩ | ⟨ne, z⟩
    · cases z
      exact ⟨b, bs, hs, fb, hb, rb⟩
    · obtain ⟨a, vs, e1, e2, e3, e4⟩ := g.own j zs z
      have nb : a ≠ b := fun q => ne (g.apart i j xs zs b hi z hs (by rw [e1, q]))
      exact ⟨a, vs, e1, nw a _ nb e3 e2, hh _ _ nb e3, Reps.mono ff _ _ e4⟩
  · obtain ⟨z1, q1⟩ := get f1
    obtain ⟨z2, q2⟩ := get f2
    exact g.apart j k z1 z2 c q1 q2 f3 f4
  · exact hh q o (fun z => n i xs hi (by rw [hs, z])) e
  · exact nw q o (fun z => n i xs hi (by rw [hs, z])) e f
  · cases h : H q with
    | none => rfl
    | some o =>
      by_cases z : q = b
      · rw [z, hb] at e; cases e
      · rw [hh q o z h] at e; cases e
def mCall (f : FP) (ms : List M) : M := fun ρ => (mArgs ms ρ).bnd fun ps ρ1 => match f ps with
  | .ok p => .ok (p, ρ1)
  | .exc x => .exc x ρ1
  | .bad => .bad
def mCallFr (f : FF) (ms : List M) : MF := fun ρ => (mArgs ms ρ).bnd fun ps ρ1 => match f ps with
  | .ok xs => .ok (xs, ρ1)
  | .exc x => .exc x ρ1
  | .bad => .bad
section
variable {k n : Nat} {fa : Addr} {fd : FuncData} {ps : List Str} {x : Str} {p : Pos} {e : Expr} {es : List Expr} {ms : List M}
theorem s_call {f : FP} (c : Ctx X W) (G : FnG X.prog X.w X.K X.mg X.base (L2.CX X.prog X.w) k fa fd ps (spP X.K X.mg n f)) (hr : Room k X.A) (hg : Gl X x) (hm : X.mg x = some (.ref fa)) (hk : PySem.W.keepIn X.K (.ref fa) = true) (hb : Binds X.K fd ps [])
    (ha : SndA X W (e :: es) (mArgs ms)) (hn : ms.length = n := by rfl) (hdb : (x == ("__debug__" : Str)) = false := by decide) (he : starEach (e :: es) X.env = (false, eval e X.env) :: starEach es X.env := by rfl) (hpl : (backTo pos (starEach es X.env)).any (·.1) = false := by rfl) :
    SndE X W (.Call (.Name x p) (e :: es) [] pos) (mCall f ms) := fun F ρ σ H Q g hp => by
  refine we_of (pe_callG (E := fun σ cls d H => W cls d σ H) G hr c.gd hg hm hk hb (fun σ => passAt c.tk σ) pa_wa hdb he hpl) ?_
  refine ha.thenL g hp fun F1 ρ1 H1 qs vs st g1 rp len hp1 => ?_
  refine ⟨by rw [List.append_nil, ← rp.length, len]; exact hn, F1, qs, g1.sub, by rw [List.append_nil]; exact rp, ?_⟩
  cases hf : f qs with
  | ok z =>
    rw [hf] at hp1
    intro F' H' v a b c' d r
    obtain ⟨g', st'⟩ := g1.after a b c' d
    exact hp1 F' H' v st' g' r
  | exc y =>
    rw [hf] at hp1
    intro F' H' cls d a b c' n' r
    obtain ⟨g', st'⟩ := g1.after a b c' n'
    exact hp1 F' H' cls d st' g' r
  | bad => rw [hf] at hp1; exact hp1
theorem f_call {f : FF} (c : Ctx X W) (G : FnG X.prog X.w X.K X.mg X.base (L2.CX X.prog X.w) k fa fd ps (spF X.K X.mg n f)) (hr : Room k X.A) (hg : Gl X x) (hm : X.mg x = some (.ref fa)) (hk : PySem.W.keepIn X.K (.ref fa) = true) (hb : Binds X.K fd ps [])
    (ha : SndA X W (e :: es) (mArgs ms)) (hn : ms.length = n := by rfl) (hdb : (x == ("__debug__" : Str)) = false := by decide) (he : starEach (e :: es) X.env = (false, eval e X.env) :: starEach es X.env := by rfl) (hpl : (backTo pos (starEach es X.env)).any (·.1) = false := by rfl) :
    SndF X W (.Call (.Name x p) (e :: es) [] pos) (mCallFr f ms) := fun F ρ σ H Q g hp => by
  refine we_of (pe_callG (E := fun σ cls d H => W cls d σ H) G hr c.gd hg hm hk hb (fun σ => passAt c.tk σ) pa_wa hdb he hpl) ?_
  refine ha.thenL g hp fun F1 ρ1 H1 qs vs st g1 rp len hp1 => ?_
  refine ⟨by rw [List.append_nil, ← rp.length, len]; exact hn, F1, qs, g1.sub, by rw [List.append_nil]; exact rp, ?_⟩
  cases hf : f qs with
  | ok z =>
    rw [hf] at hp1
    intro F' H' a' ws a b c' d na fa' ha' r
    obtain ⟨g', st'⟩ := g1.after a b c' d
    refine hp1 F' H' _ st' g' ⟨a', ws, rfl, na, fa', fun i xs e z => ?_, ha', r⟩
    obtain ⟨a2, vs2, e1, e2, e3, e4⟩ := g1.own i xs e
    rw [e1] at z
    cases z
    rw [na] at e3
    cases e3
  | exc y =>
    rw [hf] at hp1
    intro F' H' cls d a b c' n' r
    obtain ⟨g', st'⟩ := g1.after a b c' n'
    exact hp1 F' H' cls d st' g' r
  | bad => rw [hf] at hp1; exact hp1
def mCallBx (f : FB) (i : Nat) (ms : List M) : M := fun ρ => match ρ[i]? with
  | some (.own _) => (mArgs ms ρ).bnd fun ps ρ1 => match ρ1[i]? with
    | some (.own xs) => match f xs ps with
      | .ok p ys => .ok (p, ρ1.set i (.own ys))
      | .exc x ys => .exc x (ρ1.set i (.own ys))
      | .bad => .bad
    | _ => .bad
  | _ => .bad
theorem s_callBx {f : FB} {y : Str} {p0 : Pos} (i : Nat) (c : Ctx X W) (G : FnG X.prog X.w X.K X.mg X.base (L2.CX X.prog X.w) k fa fd ps (spB X.K X.mg n f)) (hr : Room k X.A) (hg : Gl X x) (hm : X.mg x = some (.ref fa)) (hk : PySem.W.keepIn X.K (.ref fa) = true) (hb : Binds X.K fd ps [])
    (h : PE X (.Name y p0) (tVar i)) (ha : SndA X W es (mArgs ms)) (hn : ms.length = n := by rfl) (hdb : (x == ("__debug__" : Str)) = false := by decide) (he : starEach (.Name y p0 :: es) X.env = (false, eval (.Name y p0) X.env) :: starEach es X.env := by rfl) (hpl : (backTo pos (starEach es X.env)).any (·.1) = false := by rfl) :
    SndE X W (.Call (.Name x p) (.Name y p0 :: es) [] pos) (mCallBx f i ms) := fun F ρ σ H Q g hp => by
  refine we_of (pe_callG (E := fun σ cls d H => W cls d σ H) G hr c.gd hg hm hk hb (fun σ => passAt c.tk σ) (pa_cons h pa_wa he) hdb he hpl) ?_
  unfold mCallBx at hp
  split at hp
  · rename_i xs0 e0
    obtain ⟨b, _, eb, _⟩ := g.own i xs0 e0
    refine ⟨.ref b, eb, ?_⟩
    refine ha.thenL g hp fun F1 ρ1 H1 qs vs st g1 rp len hp1 => ?_
    split at hp1
    · rename_i xs e1
      obtain ⟨b', bs, eb', fb, hbs, rbs⟩ := g1.own i xs e1
      rw [eb] at eb'
      cases eb'
      refine ⟨by rw [List.append_nil, List.length_cons, ← rp.length, len, hn], F1, b, bs, xs, qs, vs, by rw [List.append_nil], g1.sub, fb, hbs, rbs, rp, ?_⟩
      cases hf : f xs qs with
      | ok z ys =>
        rw [hf] at hp1
        intro F' H' v bs' a1 a2 a3 a4 a5 a6 a7 r
        obtain ⟨g', st'⟩ := g1.afterB e1 eb a1 a2 a3 a4 a5 a6 a7
        exact hp1 F' H' v st' g' r
      | exc y ys =>
        rw [hf] at hp1
        intro F' H' cls d bs' a1 a2 a3 a4 a5 a6 a7 r
        obtain ⟨g', st'⟩ := g1.afterB e1 eb a1 a2 a3 a4 a5 a6 a7
        exact hp1 F' H' cls d st' g' r
      | bad => rw [hf] at hp1; exact hp1
    · exact hp1.elim
  · exact hp.elim
end
end
end Ev

set_option Elab.async false
set_option linter.all false
set_option maxRecDepth 100000
namespace Ev
open PySem L2
/-! ### statements -/
inductive SR where
  | nx (ρ : Rho) | rt (p : PV) (ρ : Rho) | rf (xs : List PV) (ρ : Rho) | bk (ρ : Rho) | ct (ρ : Rho) | exc (x : Exc) (ρ : Rho) | bad
abbrev MS := Rho → SR
def Res.sr {α : Type} (r : Res (α × Rho)) (f : α → Rho → SR) : SR := match r with
  | .ok (a, ρ) => f a ρ | .exc x ρ => .exc x ρ | .bad => .bad
@[simp] theorem Res.sr_ok {α : Type} (a : α) (ρ : Rho) (f : α → Rho → SR) : (Res.ok (a, ρ)).sr f = f a ρ := rfl
@[simp] theorem Res.sr_exc {α : Type} (x : Exc) (ρ : Rho) (f : α → Rho → SR) : (Res.exc x ρ : Res (α × Rho)).sr f = .exc x ρ := rfl
@[simp] theorem Res.sr_bad {α : Type} (f : α → Rho → SR) : (Res.bad : Res (α × Rho)).sr f = .bad := rfl
/-- against a def's entry: H0 the heap, F0 what was known for good then, b the list handed in to be changed -/
structure Fr0 (H0 F0 : Hp) (b : Option Addr) (ρ : Rho) (σ : St) (F H : Hp) : Prop where
  ff : Same F0 F
  keep : ∀ q o, b ≠ some q → H0 q = some o → H q = some o
  nf : ∀ q o, b ≠ some q → H0 q = some o → F0 q = none → F q = none
  fresh : ∀ (i : Nat) xs a, ρ[i]? = some (.own xs) → σ[i]? = some (some (.ref a)) → H0 a = none ∨ b = some a
  io : ∀ a, b = some a → σ[0]? = some (some (.ref a))
  ex : ∀ q, H q = none → H0 q = none
section
variable {K : PySem.W.Frag} {H0 F0 F F' H H' : Hp} {b : Option Addr} {ρ ρ' : Rho} {σ σ' : St}
theorem Fr0.step (f : Fr0 H0 F0 b ρ σ F H) (s : Stp σ F ρ H F' ρ' H') : Fr0 H0 F0 b ρ' σ F' H' := by
  have no : ∀ q o, b ≠ some q → H0 q = some o → NotOwn ρ σ q := fun q o hb h i xs e z => by
    rcases f.fresh i xs q e z with w | w
    · rw [h] at w; cases w
    · exact hb w
  refine ⟨f.ff.trans s.ff, fun q o hb h => s.kp q o (f.keep q o hb h) (no q o hb h), fun q o hb h n => s.nf q o (f.keep q o hb h) (f.nf q o hb h n) (no q o hb h), fun i xs a e z => ?_, f.io, fun q h => f.ex q (s.ex q h)⟩
  obtain ⟨ys, e'⟩ := s.os i xs e
  exact f.fresh i ys a e' z
theorem Fr0.rebase (f : Fr0 H0 F0 b ρ σ F H) : Fr0 H0 F b ρ σ F H := ⟨Same.refl _, f.keep, fun _ _ _ _ n => n, f.fresh, f.io, f.ex⟩
theorem Fr0.trans (f : Fr0 H0 F0 b ρ σ F H) (g : Fr0 H0 F b ρ' σ' F' H') : Fr0 H0 F0 b ρ' σ' F' H' := ⟨f.ff.trans g.ff, g.keep, fun q o hb h n => g.nf q o hb h (f.nf q o hb h n), g.fresh, g.io, g.ex⟩
theorem set_get {α : Type} {l : List α} {i j : Nat} {x : α} : (l.set i x)[j]? = if i = j then (if i < l.length then some x else none) else l[j]? := by
  rw [List.getElem?_set]
theorem Good.setVal {i : Nat} {p : PV} {v : V} (g : Good K F ρ σ H) (r : Rep K F p v) : Good K F (ρ.set i (.val p)) (σ.set i (some v)) H := by
  refine ⟨g.sub, by simpa using g.len, fun j q e => ?_, fun j xs e => ?_, fun j k xs ys a e1 e2 e3 e4 => ?_⟩
  · rcases get_set e with ⟨rfl, z⟩ | ⟨ne, z⟩
    · cases z
      have hi : i < ρ.length := by
        by_cases h : i < ρ.length
        · exact h
        · rw [set_get, if_pos rfl, if_neg h] at e; cases e
      refine ⟨v, ?_, r⟩
      rw [set_get, if_pos rfl, if_pos (by rw [← g.len]; exact hi)]
    · obtain ⟨w, e1, e2⟩ := g.val j q z
      exact ⟨w, by rw [List.getElem?_set_ne ne]; exact e1, e2⟩
  · rcases get_set e with ⟨rfl, z⟩ | ⟨ne, z⟩
    · cases z
    · obtain ⟨a, vs, e1, e2⟩ := g.own j xs z
      exact ⟨a, vs, by rw [List.getElem?_set_ne ne]; exact e1, e2⟩
  · rcases get_set e1 with ⟨rfl, z⟩ | ⟨n1, z1⟩
    · cases z
    · rcases get_set e2 with ⟨rfl, z⟩ | ⟨n2, z2⟩
      · cases z
      · rw [List.getElem?_set_ne n1] at e3
        rw [List.getElem?_set_ne n2] at e4
        exact g.apart j k xs ys a z1 z2 e3 e4
theorem Fr0.setVal {i : Nat} {p : PV} {v : V} (f : Fr0 H0 F0 b ρ σ F H) (hb : b = none ∨ i ≠ 0) : Fr0 H0 F0 b (ρ.set i (.val p)) (σ.set i (some v)) F H := by
  refine ⟨f.ff, f.keep, f.nf, fun j xs a e z => ?_, fun a e => ?_, f.ex⟩
  · rcases get_set e with ⟨rfl, w⟩ | ⟨ne, w⟩
    · cases w
    · rw [List.getElem?_set_ne ne] at z
      exact f.fresh j xs a w z
  · rcases hb with h | h
    · rw [h] at e; cases e
    · rw [List.getElem?_set_ne h]; exact f.io a e
theorem Good.setOwn {i : Nat} {xs : List PV} {a : Addr} {vs : List V} (g : Good K F ρ σ H) (fa : F a = none) (no : NotOwn ρ σ a) (ha : H a = some (.lst vs)) (r : Reps K F xs vs) : Good K F (ρ.set i (.own xs)) (σ.set i (some (.ref a))) H := by
  have hi : ∀ {s : Slot}, (ρ.set i (.own xs))[i]? = some s → i < ρ.length ∧ i < σ.length := fun {s} e => by
    by_cases h : i < ρ.length
    · exact ⟨h, by rw [← g.len]; exact h⟩
    · rw [set_get, if_pos rfl, if_neg h] at e; cases e
  refine ⟨g.sub, by simpa using g.len, fun j q e => ?_, fun j ys e => ?_, fun j k ys zs c e1 e2 e3 e4 => ?_⟩
  · rcases get_set e with ⟨rfl, z⟩ | ⟨ne, z⟩
    · cases z
    · obtain ⟨w, e1, e2⟩ := g.val j q z
      exact ⟨w, by rw [List.getElem?_set_ne ne]; exact e1, e2⟩
  · rcases get_set e with ⟨rfl, z⟩ | ⟨ne, z⟩
    · cases z
      exact ⟨a, vs, by rw [set_get, if_pos rfl, if_pos (hi e).2], fa, ha, r⟩
    · obtain ⟨c, ws, e1, e2⟩ := g.own j ys z
      exact ⟨c, ws, by rw [List.getElem?_set_ne ne]; exact e1, e2⟩
  · rcases get_set e1 with ⟨rfl, z1⟩ | ⟨n1, z1⟩
    · rcases get_set e2 with ⟨rfl, z2⟩ | ⟨n2, z2⟩
      · rfl
      · rw [List.getElem?_set_ne n2] at e4
        rw [set_get, if_pos rfl, if_pos (hi e1).2] at e3
        cases e3
        exact absurd e4 (no k zs z2)
    · rcases get_set e2 with ⟨rfl, z2⟩ | ⟨n2, z2⟩
      · rw [List.getElem?_set_ne n1] at e3
        rw [set_get, if_pos rfl, if_pos (hi e2).2] at e4
        cases e4
        exact absurd e3 (no j ys z1)
      · rw [List.getElem?_set_ne n1] at e3
        rw [List.getElem?_set_ne n2] at e4
        exact g.apart j k ys zs c z1 z2 e3 e4
theorem Fr0.setOwn {i : Nat} {xs : List PV} {a : Addr} (f : Fr0 H0 F0 b ρ σ F H) (hb : b = none ∨ i ≠ 0) (ha : H0 a = none) : Fr0 H0 F0 b (ρ.set i (.own xs)) (σ.set i (some (.ref a))) F H := by
  refine ⟨f.ff, f.keep, f.nf, fun j ys c e z => ?_, fun c e => ?_, f.ex⟩
  · rcases get_set e with ⟨rfl, w⟩ | ⟨ne, w⟩
    · rw [set_get, if_pos rfl] at z
      split at z
      · cases z; exact .inl ha
      · cases z
    · rw [List.getElem?_set_ne ne] at z
      exact f.fresh j ys c w z
  · rcases hb with h | h
    · rw [h] at e; cases e
    · rw [List.getElem?_set_ne h]; exact f.io c e
end
/-- what is wanted behind a statement's mirror -/
def PostS (X : Cx) (W : WX) (b : Option Addr) (H0 F0 : Hp) (r : SR) (D : Ends) : Prop := match r with
  | .nx ρ' => ∀ F' σ' H', Fr0 H0 F0 b ρ' σ' F' H' → Good X.K F' ρ' σ' H' → D.nx σ' H'
  | .rt p ρ' => ∀ F' σ' H' v, Fr0 H0 F0 b ρ' σ' F' H' → Good X.K F' ρ' σ' H' → Rep X.K F' p v → D.rt v H'
  | .rf xs ρ' => ∀ F' σ' H' v, Fr0 H0 F0 b ρ' σ' F' H' → Good X.K F' ρ' σ' H' → repF X.K σ' H0 F' ρ' H' xs v → D.rt v H'
  | .bk ρ' => ∀ F' σ' H', Fr0 H0 F0 b ρ' σ' F' H' → Good X.K F' ρ' σ' H' → D.bk σ' H'
  | .ct ρ' => ∀ F' σ' H', Fr0 H0 F0 b ρ' σ' F' H' → Good X.K F' ρ' σ' H' → D.ct σ' H'
  | .exc x ρ' => ∀ F' σ' H' cls d, Fr0 H0 F0 b ρ' σ' F' H' → Good X.K F' ρ' σ' H' → ExcAt X.K X.mg F' x cls d → W cls d σ' H'
  | .bad => False
@[irreducible] def WS (X : Cx) (st : Stmt) : TS := fun D σ H => ∀ (pins : List (Addr × Obj)) (s : Shared), Inv X pins σ H s → wpAny (model X.prog X.w) X.A (exec st X.env) (SP X pins D) X.xe s
@[irreducible] def WSs (X : Cx) (st : List Stmt) : TS := fun D σ H => ∀ (pins : List (Addr × Obj)) (s : Shared), Inv X pins σ H s → wpAny (model X.prog X.w) X.A (execs st X.env) (SP X pins D) X.xe s
def SndS (X : Cx) (W : WX) (b : Option Addr) (st : Stmt) (m : MS) : Prop :=
  ∀ (H0 F0 F : Hp) (ρ : Rho) (σ : St) (H : Hp) (D : Ends), Fr0 H0 F0 b ρ σ F H → Good X.K F ρ σ H → PostS X W b H0 F0 (m ρ) D → WS X st D σ H
def SndSs (X : Cx) (W : WX) (b : Option Addr) (st : List Stmt) (m : MS) : Prop :=
  ∀ (H0 F0 F : Hp) (ρ : Rho) (σ : St) (H : Hp) (D : Ends), Fr0 H0 F0 b ρ σ F H → Good X.K F ρ σ H → PostS X W b H0 F0 (m ρ) D → WSs X st D σ H
section
variable {X : Cx} {W : WX} {b : Option Addr} {pos : Pos} {st : Stmt} {sts : List Stmt}
theorem ps_ws : PS X st (WS X st) := ⟨fun pins s _ _ _ I h => by unfold WS at h; exact h pins s I⟩
theorem pss_wss : PSs X sts (WSs X sts) := ⟨fun pins s _ _ _ I h => by unfold WSs at h; exact h pins s I⟩
theorem ws_of {t : TS} {σ : St} {H : Hp} {D : Ends} (p : PS X st t) (h : t D σ H) : WS X st D σ H := by unfold WS; exact fun pins s I => p.run pins s σ H D I h
theorem wss_of {t : TS} {σ : St} {H : Hp} {D : Ends} (p : PSs X sts t) (h : t D σ H) : WSs X sts D σ H := by unfold WSs; exact fun pins s I => p.run pins s σ H D I h
/-- from an expression's mirror on -/
theorem Post.sr {α β : Type} {rep : RepT α β} {H0 F0 F : Hp} {ρ : Rho} {σ : St} {H : Hp} {r : Res (α × Rho)} {f : α → Rho → SR} {D : Ends} {R : β → Hp → Prop} (fr : Fr0 H0 F0 b ρ σ F H) (hp : PostS X W b H0 F0 (r.sr f) D)
    (k : ∀ F1 ρ1 H1 p v, Stp σ F ρ H F1 ρ1 H1 → Fr0 H0 F0 b ρ1 σ F1 H1 → Good X.K F1 ρ1 σ H1 → rep H F1 ρ1 H1 p v → PostS X W b H0 F0 (f p ρ1) D → R v H1) : Post rep X W F ρ σ H r R := by
  match r, hp with
  | .ok (p, ρ1), hp => exact fun F1 H1 v s g rp => k F1 ρ1 H1 p v s (fr.step s) g rp hp
  | .exc x ρ1, hp => exact fun F1 H1 cls d s g e => hp F1 σ H1 cls d (fr.step s) g e
/-! blocks -/
def mSeq (a c : MS) : MS := fun ρ => match a ρ with
  | .nx ρ1 => c ρ1
  | r => r
def mNil : MS := fun ρ => .nx ρ
theorem ss_nil : SndSs X W b [] mNil := fun H0 F0 F ρ σ H D f g hp => wss_of pss_nil (show D.nx σ H from hp F σ H f g)
theorem ss_cons {a c : MS} (h1 : SndS X W b st a) (h2 : SndSs X W b sts c) : SndSs X W b (st :: sts) (mSeq a c) := fun H0 F0 F ρ σ H D f g hp => by
  refine wss_of (pss_cons ps_ws pss_wss) ?_
  refine h1 H0 F0 F ρ σ H _ f g ?_
  unfold mSeq at hp
  cases e : a ρ with
  | nx ρ1 =>
    rw [e] at hp
    exact fun F' σ' H' f' g' => h2 H0 F0 F' ρ1 σ' H' D f' g' hp
  | rt p ρ1 => rw [e] at hp; exact hp
  | rf p ρ1 => rw [e] at hp; exact hp
  | bk ρ1 => rw [e] at hp; exact hp
  | ct ρ1 => rw [e] at hp; exact hp
  | exc x ρ1 => rw [e] at hp; exact hp
  | bad => rw [e] at hp; exact hp
theorem ss_one {a : MS} (h1 : SndS X W b st a) : SndSs X W b [st] a := fun H0 F0 F ρ σ H D f g hp => wss_of (pss_one ps_ws) (h1 H0 F0 F ρ σ H D f g hp)
def mPass : MS := fun ρ => .nx ρ
theorem st_pass : SndS X W b (.Pass pos) mPass := fun H0 F0 F ρ σ H D f g hp => ws_of ps_pass (show D.nx σ H from hp F σ H f g)
theorem st_break : SndS X W b (.Break pos) (fun ρ => .bk ρ) := fun H0 F0 F ρ σ H D f g hp => ws_of ps_break (show D.bk σ H from hp F σ H f g)
theorem st_continue : SndS X W b (.Continue pos) (fun ρ => .ct ρ) := fun H0 F0 F ρ σ H D f g hp => ws_of ps_continue (show D.ct σ H from hp F σ H f g)
/-! return -/
def mRet (m : M) : MS := fun ρ => (m ρ).sr fun p ρ1 => .rt p ρ1
theorem st_ret {e : Expr} {m : M} (h : SndE X W e m) : SndS X W b (.Return (some e) pos) (mRet m) := fun H0 F0 F ρ σ H D f g hp => by
  refine ws_of (ps_ret pe_we) ?_
  exact h F ρ σ H _ g (Post.sr f hp fun F1 ρ1 H1 p v _ f1 g1 r hp1 => hp1 F1 σ H1 v f1 g1 r)
def mRetF (m : MF) : MS := fun ρ => (m ρ).sr fun p ρ1 => .rf p ρ1
theorem st_retF {e : Expr} {m : MF} (h : SndF X W e m) : SndS X W b (.Return (some e) pos) (mRetF m) := fun H0 F0 F ρ σ H D f g hp => by
  refine ws_of (ps_ret pe_we) ?_
  exact h F ρ σ H _ g (Post.sr f hp fun F1 ρ1 H1 p v _ f1 g1 r hp1 => hp1 F1 σ H1 v f1 g1 (RepM.mono _ _ _ _ _ _ _ f.ex r))
/-- return of an own name -/
def mRetN (i : Nat) : MS := fun ρ => match ρ[i]? with
  | some (.own xs) => .rf xs (ρ.set i .emp)
  | _ => .bad
theorem Good.setEmp {K : PySem.W.Frag} {F H : Hp} {ρ : Rho} {σ : St} (g : Good K F ρ σ H) (i : Nat) : Good K F (ρ.set i .emp) σ H := by
  refine ⟨g.sub, by simpa using g.len, fun j q e => ?_, fun j xs e => ?_, fun j k xs ys a e1 e2 e3 e4 => ?_⟩
  · rcases get_set e with ⟨rfl, z⟩ | ⟨ne, z⟩
    · cases z
    · exact g.val j q z
  · rcases get_set e with ⟨rfl, z⟩ | ⟨ne, z⟩
    · cases z
    · exact g.own j xs z
  · rcases get_set e1 with ⟨rfl, z⟩ | ⟨n1, z1⟩
    · cases z
    · rcases get_set e2 with ⟨rfl, z⟩ | ⟨n2, z2⟩
      · cases z
      · exact g.apart j k xs ys a z1 z2 e3 e4
theorem Fr0.setEmp {H0 F0 F H : Hp} {ρ : Rho} {σ : St} (f : Fr0 H0 F0 b ρ σ F H) (i : Nat) : Fr0 H0 F0 b (ρ.set i .emp) σ F H :=
  ⟨f.ff, f.keep, f.nf, fun j xs a e z => by
    rcases get_set e with ⟨rfl, w⟩ | ⟨ne, w⟩
    · cases w
    · exact f.fresh j xs a w z, f.io, f.ex⟩
theorem st_retN {x : Str} {p0 : Pos} (i : Nat) (h : PE X (.Name x p0) (tVar i)) (hb : b = none := by rfl) : SndS X W b (.Return (some (.Name x p0)) pos) (mRetN i) := fun H0 F0 F ρ σ H D f g hp => by
  refine ws_of (ps_ret h) ?_
  unfold mRetN at hp
  split at hp
  · rename_i xs e
    obtain ⟨a, vs, e1, e2, e3, e4⟩ := g.own i xs e
    have hi : i < ρ.length := by
      by_cases z : i < ρ.length
      · exact z
      · rw [List.getElem?_eq_none (by omega)] at e; cases e
    refine ⟨.ref a, e1, hp F σ H _ (f.setEmp i) (g.setEmp i) ⟨a, vs, rfl, ?_, e2, fun j ys ej z => ?_, e3, e4⟩⟩
    · rcases f.fresh i xs a e e1 with w | w
      · exact w
      · rw [hb] at w; cases w
    · rcases get_set ej with ⟨rfl, w⟩ | ⟨ne, w⟩
      · cases w
      · exact ne (g.apart i j xs ys a e w e1 z)
  · exact hp.elim
/-! name = e -/
def mSet (i : Nat) (m : M) : MS := fun ρ => (m ρ).sr fun p ρ1 => .nx (ρ1.set i (.val p))
def mSetF (i : Nat) (m : MF) : MS := fun ρ => (m ρ).sr fun xs ρ1 => .nx (ρ1.set i (.own xs))
section
variable {i : Nat} {x : Str} {e : Expr} {pos' : Pos}
theorem st_set {m : M} (c : Ctx X W) (hi : X.N[i]? = some x) (hx : Loc X.env.scope x) (he : SndE X W e m) (hb : b = none ∨ i ≠ 0) (hs : swapsWith e (some (.Name x pos')) pos.line X.env = pure false := by rfl) (hf : X.fn x = true ∨ X.env.scope.names.lookup x = some .local := by first | exact .inl rfl | exact .inr rfl | assumption) :
    SndS X W b (.Assign [.Name x pos'] e pos) (mSet i m) := fun H0 F0 F ρ σ H D f g hp => by
  refine ws_of (ps_set c.nd hi hx pe_we hs hf) ?_
  exact he F ρ σ H _ g (Post.sr f hp fun F1 ρ1 H1 p v _ f1 g1 r hp1 => hp1 F1 _ H1 (f1.setVal hb) (g1.setVal r))
theorem st_setF {m : MF} (c : Ctx X W) (hi : X.N[i]? = some x) (hx : Loc X.env.scope x) (he : SndF X W e m) (hb : b = none ∨ i ≠ 0) (hs : swapsWith e (some (.Name x pos')) pos.line X.env = pure false := by rfl) (hf : X.fn x = true ∨ X.env.scope.names.lookup x = some .local := by first | exact .inl rfl | exact .inr rfl | assumption) :
    SndS X W b (.Assign [.Name x pos'] e pos) (mSetF i m) := fun H0 F0 F ρ σ H D f g hp => by
  refine ws_of (ps_set c.nd hi hx pe_we hs hf) ?_
  refine he F ρ σ H _ g (Post.sr f hp fun F1 ρ1 H1 p v _ f1 g1 r hp1 => ?_)
  obtain ⟨a, vs, rfl, hn, fa, no, ha, rv⟩ := r
  exact hp1 F1 _ H1 (f1.setOwn hb (f.ex a hn)) (g1.setOwn fa no ha rv)
end
/-! targets -/
abbrev MG := PV → Rho → Option Rho
@[irreducible] def WG (X : Cx) (tg : Expr) : TG := fun v σ H Q => ∀ (pins : List (Addr × Obj)) (s : Shared) (u : Value), Inv X pins σ H s → RelV v u → wpAny (model X.prog X.w) X.A (assign tg X.env u) (fun _ s' => ∃ σ' H', Inv X pins σ' H' s' ∧ Q σ' H') X.xe s
theorem pg_wg {tg : Expr} : PG X tg (WG X tg) := ⟨fun pins s _ _ _ u _ I r h => by unfold WG at h; exact h pins s u I r⟩
theorem wg_of {tg : Expr} {t : TG} {v : V} {σ : St} {H : Hp} {Q : St → Hp → Prop} (p : PG X tg t) (h : t v σ H Q) : WG X tg v σ H Q := by unfold WG; exact fun pins s u I r => p.run pins s σ H v u Q I r h
def SndG (X : Cx) (b : Option Addr) (ws : List Nat) (tg : Expr) (m : MG) : Prop :=
  ∀ (H0 F0 F : Hp) (ρ : Rho) (σ : St) (H : Hp) (p : PV) (v : V) (ρ' : Rho) (Q : St → Hp → Prop), Fr0 H0 F0 b ρ σ F H → Good X.K F ρ σ H → Rep X.K F p v → m p ρ = some ρ' → (∀ σ', wipe σ' ws = wipe σ ws → (∀ (i : Nat) xs, ρ'[i]? = some (.own xs) → ρ[i]? = some (.own xs)) → Fr0 H0 F0 b ρ' σ' F H → Good X.K F ρ' σ' H → Q σ' H) → WG X tg v σ H Q
theorem wipe_set {σ : St} {i : Nat} {o : Option V} : ∀ {ws : List Nat}, i ∈ ws → wipe (σ.set i o) ws = wipe σ ws
  | [], h => by cases h
  | w :: ws, h => by
    unfold wipe
    rcases List.mem_cons.mp h with rfl | h
    · by_cases hw : i ∈ ws
      · rw [wipe_set hw]
      · have : ∀ (τ : St) (us : List Nat), i ∉ us → wipe (τ.set i o) us = (wipe τ us).set i o := by
          intro τ us
          induction us with
          | nil => intro _; rfl
          | cons u us ih =>
            intro hn
            unfold wipe
            rw [ih (fun z => hn (List.mem_cons_of_mem _ z)), List.set_comm _ _ (fun e => hn (by rw [e]; exact List.mem_cons_self))]
        rw [this σ ws hw, List.set_set]
    · rw [wipe_set h]
def mgName (i : Nat) : MG := fun p ρ => some (ρ.set i (.val p))
theorem g_name {i : Nat} {x : Str} {ws : List Nat} (c : Ctx X W) (hi : X.N[i]? = some x) (hx : Loc X.env.scope x) (hb : b = none ∨ i ≠ 0) (hw : i ∈ ws) (hf : X.fn x = true ∨ X.env.scope.names.lookup x = some .local := by first | exact .inl rfl | exact .inr rfl | assumption) : SndG X b ws (.Name x pos) (mgName i) := fun H0 F0 F ρ σ H p v ρ' Q f g r e k => by
  cases e
  exact wg_of (pg_name c.nd hi hx hf) (k _ (wipe_set hw) (fun j xs e => by
    rcases get_set e with ⟨rfl, z⟩ | ⟨_, z⟩
    · cases z
    · exact z) (f.setVal hb) (g.setVal r))
abbrev MGs := List PV → Rho → Option Rho
@[irreducible] def WGs (X : Cx) (ts : List Expr) : TGs := fun vs σ H Q => ∀ (pins : List (Addr × Obj)) (s : Shared) (us : List Value), Inv X pins σ H s → Vals vs us → wpAny (model X.prog X.w) X.A (assignInOrder ((assignEach ts X.env).map (·.2)) us) (fun _ s' => ∃ σ' H', Inv X pins σ' H' s' ∧ Q σ' H') X.xe s
theorem pgs_wgs {ts : List Expr} : PGs X ts (WGs X ts) := ⟨fun pins s _ _ _ us _ I r h => by unfold WGs at h; exact h pins s us I r⟩
theorem wgs_of {ts : List Expr} {t : TGs} {vs : List V} {σ : St} {H : Hp} {Q : St → Hp → Prop} (p : PGs X ts t) (h : t vs σ H Q) : WGs X ts vs σ H Q := by unfold WGs; exact fun pins s us I r => p.run pins s σ H vs us Q I r h
def SndGs (X : Cx) (b : Option Addr) (ws : List Nat) (ts : List Expr) (m : MGs) : Prop :=
  ∀ (H0 F0 F : Hp) (ρ : Rho) (σ : St) (H : Hp) (ps : List PV) (vs : List V) (ρ' : Rho) (Q : St → Hp → Prop), Fr0 H0 F0 b ρ σ F H → Good X.K F ρ σ H → Reps X.K F ps vs → m ps ρ = some ρ' → (∀ σ', wipe σ' ws = wipe σ ws → (∀ (i : Nat) xs, ρ'[i]? = some (.own xs) → ρ[i]? = some (.own xs)) → Fr0 H0 F0 b ρ' σ' F H → Good X.K F ρ' σ' H → Q σ' H) → WGs X ts vs σ H Q
def mgNil : MGs := fun ps ρ => match ps with
  | [] => some ρ
  | _ => none
def mgCons (g : MG) (gs : MGs) : MGs := fun ps ρ => match ps with
  | [] => none
  | p :: ps => (g p ρ).bind fun ρ1 => gs ps ρ1
theorem gs_nil {ws : List Nat} : SndGs X b ws [] mgNil := fun H0 F0 F ρ σ H ps vs ρ' Q f g r e k => by
  unfold mgNil at e
  split at e
  · cases e
    rw [r.inv0]
    exact wgs_of pgs_nil ⟨rfl, k _ rfl (fun _ _ e => e) f g⟩
  · cases e
theorem gs_cons {ws : List Nat} {t : Expr} {ts : List Expr} {m : MG} {ms : MGs} (h1 : SndG X b ws t m) (h2 : SndGs X b ws ts ms) (hs : (assignEach (t :: ts) X.env).map (·.2) = assign t X.env :: (assignEach ts X.env).map (·.2) := by rfl) : SndGs X b ws (t :: ts) (mgCons m ms) := fun H0 F0 F ρ σ H ps vs ρ' Q f g r e k => by
  unfold mgCons at e
  split at e
  · cases e
  · rename_i p ps
    obtain ⟨v, us, rfl, r1, r2⟩ := r.inv
    cases e1 : m p ρ with
    | none => rw [e1] at e; cases e
    | some ρ1 =>
      rw [e1] at e
      refine wgs_of (pgs_cons pg_wg pgs_wgs hs) ⟨v, us, rfl, ?_⟩
      exact h1 H0 F0 F ρ σ H p v ρ1 _ f g r1 e1 fun σ1 w1 o1 f1 g1 => h2 H0 F0 F ρ1 σ1 H ps us ρ' Q f1 g1 r2 e fun σ' w' o' => k σ' (w'.trans w1) fun i xs z => o1 i xs (o' i xs z)
def mgTup (gs : MGs) : MG := fun p ρ => match p with
  | .tup ps => gs ps ρ
  | .lst ps => gs ps ρ
  | _ => none
theorem pg_either {es : List Expr} {k : Nat} {t : TGs} {n : Nat} (hc : X.calm = true) (h : PGs X es t) (hn : (assignEach es X.env).length = n := by rfl) (hst : (assignEach es X.env).findIdx? (·.1) = none := by rfl) :
    PG X (.Tuple es k pos) (fun v σ H Q => gTup X.K n t v σ H Q ∨ gUnl X.K n t v σ H Q) :=
  ⟨fun pins s σ H v u Q I r z => z.elim ((pg_tup hc h hn hst).run pins s σ H v u Q I r) ((pg_unl hc h hn hst).run pins s σ H v u Q I r)⟩
/-- as many as there are targets -/
def LenGs (m : MGs) (n : Nat) : Prop := ∀ ps ρ ρ', m ps ρ = some ρ' → ps.length = n
theorem len_nil : LenGs mgNil 0 := fun ps ρ ρ' h => by
  unfold mgNil at h
  split at h
  · rfl
  · cases h
theorem len_cons {g : MG} {gs : MGs} {n : Nat} (h : LenGs gs n) : LenGs (mgCons g gs) (n + 1) := fun ps ρ ρ' e => by
  unfold mgCons at e
  split at e
  · cases e
  · rename_i p ps
    cases e1 : g p ρ with
    | none => rw [e1] at e; cases e
    | some ρ1 => rw [e1] at e; rw [List.length_cons, h ps ρ1 ρ' e]
theorem g_tup {ws : List Nat} {es : List Expr} {k n : Nat} {ms : MGs} (c : Ctx X W) (h : SndGs X b ws es ms) (hl : LenGs ms n) (hn : (assignEach es X.env).length = n := by rfl) (hst : (assignEach es X.env).findIdx? (·.1) = none := by rfl) : SndG X b ws (.Tuple es k pos) (mgTup ms) := fun H0 F0 F ρ σ H p v ρ' Q f g r e kk => by
  unfold mgTup at e
  split at e
  · rename_i ps
    unfold Rep at r
    obtain ⟨a, vs, rfl, h1, h2⟩ := r
    refine wg_of (pg_either (n := n) c.calm pgs_wgs hn hst) (.inl ⟨a, vs, rfl, SqT.of (g.sub _ _ h1), by rw [← h2.length]; exact hl _ _ _ e, ?_⟩)
    exact h H0 F0 F ρ σ H ps vs ρ' Q f g h2 e kk
  · rename_i ps
    unfold Rep at r
    obtain ⟨a, vs, rfl, h1, h2⟩ := r
    refine wg_of (pg_either (n := n) c.calm pgs_wgs hn hst) (.inr ⟨a, vs, rfl, SqL.of (g.sub _ _ h1), by rw [← h2.length]; exact hl _ _ _ e, ?_⟩)
    exact h H0 F0 F ρ σ H ps vs ρ' Q f g h2 e kk
  · cases e
/-- target = e -/
def mAsg (g : MG) (m : M) : MS := fun ρ => (m ρ).sr fun p ρ1 => match g p ρ1 with
  | some ρ2 => .nx ρ2
  | none => .bad
theorem st_asg {ws : List Nat} {tg e : Expr} {m : M} {g : MG} (he : SndE X W e m) (hg : SndG X b ws tg g) (hs : swapsWithSole [tg] e pos.line X.env = pure false := by rfl) (hw : swappedStores [tg] e X.env = pure none := by rfl)
    (h1 : (assignEach [tg] X.env).map (·.2) = [assign tg X.env] := by rfl) : SndS X W b (.Assign [tg] e pos) (mAsg g m) := fun H0 F0 F ρ σ H D f gd hp => by
  refine ws_of (ps_asg pe_we pg_wg hs hw h1) ?_
  refine he F ρ σ H _ gd (Post.sr f hp fun F1 ρ1 H1 p v _ f1 g1 r hp1 => ?_)
  cases e1 : g p ρ1 with
  | none => rw [e1] at hp1; exact hp1.elim
  | some ρ2 =>
    rw [e1] at hp1
    exact hg H0 F0 F1 ρ1 σ H1 p v ρ2 _ f1 g1 r e1 fun σ' _ _ f' g' => hp1 F1 σ' H1 f' g'
/-- a, b = x, y -/
def mPar (i j : Nat) (ms : List M) : MS := fun ρ => (mArgs ms ρ).sr fun ps ρ1 => match ps with
  | [p, q] => .nx ((ρ1.set i (.val p)).set j (.val q))
  | _ => .bad
theorem st_par {i j : Nat} {x y : Str} {a c' : Expr} {m m' : M} {px py pt : Pos} {kt k2 pt2} (c : Ctx X W) (hi : X.N[i]? = some x) (hj : X.N[j]? = some y) (hij : i ≠ j)
    (hx : X.env.scope.names.lookup x = some .local) (hy : X.env.scope.names.lookup y = some .local) (ha : SndA X W [a, c'] (mArgs [m, m'])) (hbi : b = none ∨ i ≠ 0) (hbj : b = none ∨ j ≠ 0)
    (hw : swappedStores [.Tuple [.Name x px, .Name y py] kt pt] (.Tuple [a, c'] k2 pt2) X.env = pure (some [x, y]))
    (hs : swapsWithSole [.Tuple [.Name x px, .Name y py] kt pt] (.Tuple [a, c'] k2 pt2) pos.line X.env = pure false := by rfl) :
    SndS X W b (.Assign [.Tuple [.Name x px, .Name y py] kt pt] (.Tuple [a, c'] k2 pt2) pos) (mPar i j [m, m']) := fun H0 F0 F ρ σ H D f g hp => by
  refine ws_of (ps_par c.calm c.nd hi hj hij hx hy pa_wa hw hs) ?_
  refine ha F ρ σ H _ g (Post.sr f hp fun F1 ρ1 H1 ps vs _ f1 g1 r hp1 => ?_)
  split at hp1
  · obtain ⟨v, w, rfl, r1, r2⟩ := Reps.two (show Reps _ _ _ _ from r)
    exact ⟨v, w, rfl, hp1 F1 _ H1 ((f1.setVal hbi).setVal hbj) ((g1.setVal r1).setVal r2)⟩
  · exact hp1.elim
/-! name op= e, of ints -/
def mAug (i : Nat) (op : PV → PV → Option PV) (m : M) : MS := fun ρ => match ρ[i]? with
  | some (.val q) => (m ρ).sr fun p ρ1 => match op q p with
    | some z => .nx (ρ1.set i (.val z))
    | none => .bad
  | _ => .bad
theorem st_aug {i : Nat} {x : Str} {e : Expr} {m : M} {o : Operator} {op : PV → PV → Option PV} {h : Int → Int → Int} {pos' : Pos} (c : Ctx X W) (hi : X.N[i]? = some x) (hx : Loc X.env.scope x) (he : SndE X W e m) (ho : PIp X o (ipI h))
    (hop : ∀ p q z, op p q = some z → ∃ i j, p = .int i ∧ q = .int j ∧ z = .int (h i j)) (hb : b = none ∨ i ≠ 0) (hf : X.fn x = true ∨ X.env.scope.names.lookup x = some .local := by first | exact .inl rfl | exact .inr rfl | assumption) :
    SndS X W b (.AugAssign (.Name x pos') o e pos) (mAug i op m) := fun H0 F0 F ρ σ H D f g hp => by
  refine ws_of (ps_aug c.nd hi hx pe_we ho hf) ?_
  unfold mAug at hp
  split at hp
  · rename_i q eq
    obtain ⟨v, ev, rv⟩ := g.val i q eq
    refine ⟨v, ev, ?_⟩
    refine he F ρ σ H _ g (Post.sr f hp fun F1 ρ1 H1 p w st f1 g1 r hp1 => ?_)
    cases ez : op q p with
    | none => rw [ez] at hp1; exact hp1.elim
    | some z =>
      rw [ez] at hp1
      obtain ⟨i1, j1, rfl, rfl, rfl⟩ := hop q p z ez
      unfold Rep at rv
      replace r : Rep X.K F1 (.int j1) w := r
      unfold Rep at r
      exact ⟨i1, j1, rv, r, hp1 F1 _ H1 (f1.setVal hb) (g1.setVal Rep.int)⟩
  · exact hp.elim
def pvAddI : PV → PV → Option PV
  | .int i, .int j => some (.int (i + j))
  | _, _ => none
theorem st_augAdd {i : Nat} {x : Str} {e : Expr} {m : M} {pos' : Pos} (c : Ctx X W) (hi : X.N[i]? = some x) (hx : Loc X.env.scope x) (he : SndE X W e m) (hb : b = none ∨ i ≠ 0) (hf : X.fn x = true ∨ X.env.scope.names.lookup x = some .local := by first | exact .inl rfl | exact .inr rfl | assumption) :
    SndS X W b (.AugAssign (.Name x pos') .Add e pos) (mAug i pvAddI m) := st_aug c hi hx he ip_add (fun p q z h => by unfold pvAddI at h; split at h <;> cases h; exact ⟨_, _, rfl, rfl, rfl⟩) hb hf
theorem st_augSub {i : Nat} {x : Str} {e : Expr} {m : M} {pos' : Pos} (c : Ctx X W) (hi : X.N[i]? = some x) (hx : Loc X.env.scope x) (he : SndE X W e m) (hb : b = none ∨ i ≠ 0) (hf : X.fn x = true ∨ X.env.scope.names.lookup x = some .local := by first | exact .inl rfl | exact .inr rfl | assumption) :
    SndS X W b (.AugAssign (.Name x pos') .Sub e pos) (mAug i pvSub m) := st_aug c hi hx he ip_sub (fun p q z h => by unfold pvSub at h; split at h <;> cases h; exact ⟨_, _, rfl, rfl, rfl⟩) hb hf
/-! if -/
def mIfS (c : MT) (a d : MS) : MS := fun ρ => (c ρ).sr fun k ρ1 => if k = true then a ρ1 else d ρ1
theorem st_if {c : Expr} {a d : List Stmt} {mc : MT} {ma md : MS} (hc : SndT X W c mc) (ha : SndSs X W b a ma) (hd : SndSs X W b d md) : SndS X W b (.If c a d pos) (mIfS mc ma md) := fun H0 F0 F ρ σ H D f g hp => by
  refine ws_of (ps_if pt_wt pss_wss pss_wss) ?_
  refine hc F ρ σ H _ g (Post.sr f hp fun F1 ρ1 H1 p v _ f1 g1 r hp1 => ?_)
  cases (show p = v from r)
  cases p with
  | true => exact ha H0 F0 F1 ρ1 σ H1 D f1 g1 hp1
  | false => exact hd H0 F0 F1 ρ1 σ H1 D f1 g1 hp1
/-! an own list's methods -/
def mAppend (i : Nat) (m : M) : MS := fun ρ => match ρ[i]? with
  | some (.own _) => (m ρ).sr fun p ρ1 => match ρ1[i]? with
    | some (.own xs) => if xs.length < sizeLine then .nx (ρ1.set i (.own (xs ++ [p]))) else .bad
    | _ => .bad
  | _ => .bad
theorem st_append {x : Str} {p0 apos cpos : Pos} {e : Expr} {m : M} (i : Nat) (h : PE X (.Name x p0) (tVar i)) (he : SndE X W e m)
    (hbase : attributeBase (.Name x p0) "append" X.env (eval (.Name x p0) X.env) = eval (.Name x p0) X.env := by rfl)
    (hfew : ((backTo cpos (starEach [e] X.env)).all (fun x => !x.1) && (backToKw cpos (keywordEach [] X.env)).all (fun x => x.1.isSome)
      && decide (([e] : List Expr).length + ([] : List Keyword).length + (if ([] : List Keyword).isEmpty then 0 else 1) < 30)) = true := by rfl)
    (hline : (apos.endLine == cpos.line) = true := by rfl) (hs : starEach [e] X.env = [(false, eval e X.env)] := by rfl)
    (hsw : swapsWith (.Call (.Attribute (.Name x p0) "append" apos) [e] [] cpos) none pos.line X.env = pure false := by rfl) :
    SndS X W b (.Expr (.Call (.Attribute (.Name x p0) "append" apos) [e] [] cpos) pos) (mAppend i m) := fun H0 F0 F ρ σ H D f g hp => by
  refine ws_of (ps_expr (pe_bm PySem.F.plainAttrs_list PySem.F.slot_list_append PySem.F.type_list_append mt_append h (pa_cons pe_we pa_nil hs) hbase hfew hline hs rfl) hsw) ?_
  unfold mAppend at hp
  split at hp
  · rename_i xs0 e0
    obtain ⟨a, vs0, ea, _, ha0, _⟩ := g.own i xs0 e0
    refine ⟨.ref a, ea, .inl ⟨rfl, _, SqL.of ha0⟩, ?_⟩
    refine he F ρ σ H _ g (Post.sr f hp fun F1 ρ1 H1 p v _ f1 g1 r hp1 => ?_)
    split at hp1
    · rename_i xs e1
      obtain ⟨a', vs, ea', fa, ha, rv⟩ := g1.own i xs e1
      rw [ea] at ea'
      cases ea'
      split at hp1
      · rename_i hl
        obtain ⟨g2, s2⟩ := g1.write e1 ea (rv.append (Reps.cons r Reps.nil))
        exact ⟨a, vs, v, rfl, rfl, ha, by rw [← rv.length]; exact hl, hp1 F1 σ _ (f1.step s2) g2⟩
      · exact hp1.elim
    · exact hp1.elim
  · exact hp.elim
/-- name.pop() -/
def mPopN (i : Nat) : M := fun ρ => match ρ[i]? with
  | some (.own xs) => match xs.getLast? with
    | some p => .ok (p, ρ.set i (.own xs.dropLast))
    | none => .bad
  | _ => .bad
theorem s_pop {x : Str} {p0 apos cpos : Pos} (i : Nat) (h : PE X (.Name x p0) (tVar i))
    (hbase : attributeBase (.Name x p0) "pop" X.env (eval (.Name x p0) X.env) = eval (.Name x p0) X.env := by rfl) (hline : (apos.endLine == cpos.line) = true := by rfl) :
    SndE X W (.Call (.Attribute (.Name x p0) "pop" apos) [] [] cpos) (mPopN i) := fun F ρ σ H Q g hp => by
  refine we_of (pe_bm0 PySem.F.plainAttrs_list PySem.F.slot_list_pop PySem.F.type_list_pop mt_pop h hbase hline) ?_
  unfold mPopN at hp
  split at hp
  · rename_i xs e0
    obtain ⟨a, vs, ea, fa, ha, rv⟩ := g.own i xs e0
    split at hp
    · rename_i p ep
      rw [List.getLast?_eq_getElem?] at ep
      obtain ⟨v, ev, r⟩ := rv.get ep
      obtain ⟨g2, s2⟩ := g.write e0 ea rv.dropLast
      refine ⟨.ref a, ea, .inl ⟨rfl, _, SqL.of ha⟩, a, vs, v, rfl, rfl, ha, by rw [← rv.length]; exact ev, ?_⟩
      exact hp F _ v s2 g2 r
    · exact hp.elim
  · exact hp.elim
/-- name[e] = v -/
def mSetIx (i : Nat) (mi mv : M) : MS := fun ρ => (mv ρ).sr fun p ρ1 => match ρ1[i]? with
  | some (.own _) => (mi ρ1).sr fun q ρ2 => match ρ2[i]?, q with
    | some (.own xs), .int k => match ixN xs.length k with
      | some j => .nx (ρ2.set i (.own (xs.set j p)))
      | none => .bad
    | _, _ => .bad
  | _ => .bad
theorem st_setIx {x : Str} {p0 spos : Pos} {ei ev : Expr} {mi mv : M} (i : Nat) (h : PE X (.Name x p0) (tVar i)) (hi : SndE X W ei mi) (hv : SndE X W ev mv)
    (ha : ∀ v, assign (.Subscript (.Name x p0) ei spos) X.env v = (do
      let ov ← holding [v] (eval (.Name x p0) X.env)
      let iv ← holding [v, ov] (eval ei X.env)
      standAt spos
      holding [v, ov, iv] (setItem ov iv v)
      release [v, ov, iv] []) := by intro _; rfl)
    (hs : swapsWithSole [.Subscript (.Name x p0) ei spos] ev pos.line X.env = pure false := by rfl) (hw : swappedStores [.Subscript (.Name x p0) ei spos] ev X.env = pure none := by rfl)
    (h1 : (assignEach [.Subscript (.Name x p0) ei spos] X.env).map (·.2) = [assign (.Subscript (.Name x p0) ei spos) X.env] := by rfl) :
    SndS X W b (.Assign [.Subscript (.Name x p0) ei spos] ev pos) (mSetIx i mi mv) := fun H0 F0 F ρ σ H D f g hp => by
  refine ws_of (ps_asg pe_we (pg_sub h pe_we set_list ha) hs hw h1) ?_
  refine hv F ρ σ H _ g (Post.sr f hp fun F1 ρ1 H1 p v _ f1 g1 r hp1 => ?_)
  split at hp1
  · rename_i xs0 e0
    obtain ⟨a, vs0, ea, _, ha0, _⟩ := g1.own i xs0 e0
    refine ⟨.ref a, ea, ?_⟩
    refine hi F1 ρ1 σ H1 _ g1 (Post.sr f1 hp1 fun F2 ρ2 H2 q w st2 f2 g2 rq hp2 => ?_)
    split at hp2
    · rename_i xs k e1
      obtain ⟨a', vs, ea', fa, ha', rv⟩ := g2.own i xs e1
      rw [ea] at ea'
      cases ea'
      split at hp2
      · rename_i j ej
        replace rq : Rep X.K F2 (.int k) w := rq
        unfold Rep at rq
        obtain ⟨g3, s3⟩ := g2.write e1 ea (rv.set j (Rep.mono st2.ff _ _ r))
        exact ⟨a, vs, k, j, rfl, rq, ha', by rw [← rv.length]; exact ej, hp2 F2 σ _ (f2.step s3) g3⟩
      · exact hp2.elim
    · exact hp2.elim
  · exact hp1.elim
end
end Ev

set_option Elab.async false
set_option linter.all false
set_option maxRecDepth 100000
namespace Ev
open PySem L2
/-! ### while -/
def whileF (c : MT) (body : MS) : Nat → Rho → SR
  | 0, _ => .bad
  | n + 1, ρ => (c ρ).sr fun k ρ1 => if k = true then (match body ρ1 with
      | .nx ρ2 => whileF c body n ρ2
      | .ct ρ2 => whileF c body n ρ2
      | .bk ρ2 => .nx ρ2
      | r => r) else .nx ρ1
theorem whileF_succ (c : MT) (body : MS) : ∀ (n : Nat) (ρ : Rho), whileF c body n ρ ≠ .bad → whileF c body (n + 1) ρ = whileF c body n ρ
  | 0, ρ, h => absurd rfl h
  | n + 1, ρ, h => by
    rw [whileF, whileF] at *
    cases hc : c ρ with
    | bad => rfl
    | exc x r => rfl
    | ok z =>
      obtain ⟨k, ρ1⟩ := z
      rw [hc] at h
      simp only [Res.sr_ok] at h ⊢
      cases k with
      | false => rfl
      | true =>
        simp only [if_true] at h ⊢
        cases hb : body ρ1 with
        | nx ρ2 => rw [hb] at h; exact whileF_succ c body n ρ2 h
        | ct ρ2 => rw [hb] at h; exact whileF_succ c body n ρ2 h
        | bk ρ2 => rfl
        | rt p r => rfl
        | rf p r => rfl
        | exc x r => rfl
        | bad => rfl
theorem whileF_le (c : MT) (body : MS) (n : Nat) (ρ : Rho) (h : whileF c body n ρ ≠ .bad) : ∀ k, whileF c body (n + k) ρ = whileF c body n ρ
  | 0 => rfl
  | k + 1 => by
    have ih := whileF_le c body n ρ h k
    rw [← Nat.add_assoc, whileF_succ c body (n + k) ρ (by rw [ih]; exact h), ih]
open Classical in
noncomputable def mWhile (c : MT) (body : MS) : MS := fun ρ => if h : ∃ n, whileF c body n ρ ≠ .bad then whileF c body h.choose ρ else .bad
theorem mWhile_of {c : MT} {body : MS} {ρ : Rho} {n : Nat} (h : whileF c body n ρ ≠ .bad) : mWhile c body ρ = whileF c body n ρ := by
  unfold mWhile
  have ex : ∃ n, whileF c body n ρ ≠ .bad := ⟨n, h⟩
  rw [dif_pos ex]
  have h2 := ex.choose_spec
  generalize ex.choose = m at h2 ⊢
  rcases Nat.le_total n m with hl | hl
  · obtain ⟨k, rfl⟩ := Nat.exists_eq_add_of_le hl
    exact whileF_le c body n ρ h k
  · obtain ⟨k, rfl⟩ := Nat.exists_eq_add_of_le hl
    exact (whileF_le c body m ρ h2 k).symm
theorem mWhile_cases (c : MT) (body : MS) (ρ : Rho) : mWhile c body ρ = .bad ∨ ∃ n, mWhile c body ρ = whileF c body n ρ := by
  by_cases h : ∃ n, whileF c body n ρ ≠ .bad
  · exact .inr ⟨_, mWhile_of h.choose_spec⟩
  · left; unfold mWhile; rw [dif_neg h]
/-- a while's one turn -/
theorem mWhile_eq (c : MT) (body : MS) (ρ : Rho) : mWhile c body ρ = (c ρ).sr fun k ρ1 => if k = true then (match body ρ1 with
      | .nx ρ2 => mWhile c body ρ2
      | .ct ρ2 => mWhile c body ρ2
      | .bk ρ2 => .nx ρ2
      | r => r) else .nx ρ1 := by
  have step : ∀ n, whileF c body (n + 1) ρ = (c ρ).sr fun k ρ1 => if k = true then (match body ρ1 with
      | .nx ρ2 => whileF c body n ρ2
      | .ct ρ2 => whileF c body n ρ2
      | .bk ρ2 => .nx ρ2
      | r => r) else .nx ρ1 := fun n => by rw [whileF]
  cases hc : c ρ with
  | bad =>
    have : ∀ n, whileF c body n ρ = .bad := fun n => by
      cases n with
      | zero => rfl
      | succ n => rw [step, hc]; rfl
    rcases mWhile_cases c body ρ with h | ⟨n, h⟩
    · rw [h]; rfl
    · rw [h, this]; rfl
  | exc x r =>
    have h1 : whileF c body 1 ρ = .exc x r := by rw [step, hc]; rfl
    rw [mWhile_of (n := 1) (by rw [h1]; exact SR.noConfusion), h1]; rfl
  | ok z =>
    obtain ⟨k, ρ1⟩ := z
    simp only [Res.sr_ok]
    cases k with
    | false =>
      have h1 : whileF c body 1 ρ = .nx ρ1 := by rw [step, hc]; rfl
      rw [mWhile_of (n := 1) (by rw [h1]; exact SR.noConfusion), h1]; rfl
    | true =>
      simp only [if_true]
      have loop : ∀ ρ2, (∀ n, whileF c body (n + 1) ρ = whileF c body n ρ2) → mWhile c body ρ = mWhile c body ρ2 := fun ρ2 hs => by
        rcases mWhile_cases c body ρ2 with h | ⟨n, h⟩
        · rcases mWhile_cases c body ρ with h' | ⟨m, h'⟩
          · rw [h, h']
          · cases m with
            | zero => rw [h', h]; rfl
            | succ m =>
              by_cases hb : whileF c body m ρ2 = .bad
              · rw [h', hs, hb, h]
              · rw [h', hs, mWhile_of hb]
        · by_cases hb : whileF c body n ρ2 = .bad
          · rw [h, hb]
            rcases mWhile_cases c body ρ with h' | ⟨m, h'⟩
            · exact h'
            · cases m with
              | zero => rw [h']; rfl
              | succ m =>
                by_cases hb' : whileF c body m ρ2 = .bad
                · rw [h', hs, hb']
                · have := mWhile_of hb'
                  rw [h, hb] at this
                  exact absurd this.symm hb'
          · rw [h, mWhile_of (n := n + 1) (by rw [hs]; exact hb), hs]
      have one : ∀ r, r ≠ SR.bad → whileF c body 1 ρ = r → mWhile c body ρ = r := fun r hr h => by
        rw [mWhile_of (n := 1) (by rw [h]; exact hr), h]
      cases hb : body ρ1 with
      | nx ρ2 => exact loop ρ2 fun n => by rw [step, hc]; simp [hb]
      | ct ρ2 => exact loop ρ2 fun n => by rw [step, hc]; simp [hb]
      | bk ρ2 => exact one _ SR.noConfusion (by rw [step, hc]; simp [hb])
      | rt p r => exact one _ SR.noConfusion (by rw [step, hc]; simp [hb])
      | rf p r => exact one _ SR.noConfusion (by rw [step, hc]; simp [hb])
      | exc x r => exact one _ SR.noConfusion (by rw [step, hc]; simp [hb])
      | bad =>
        rcases mWhile_cases c body ρ with h | ⟨n, h⟩
        · exact h
        · rw [h]
          cases n with
          | zero => rfl
          | succ n => rw [step, hc]; simp [hb]
section
variable {X : Cx} {W : WX} {b : Option Addr} {pos : Pos}
theorem st_while {c : Expr} {body : List Stmt} {mc : MT} {mb : MS} (cx : Ctx X W) (hc : SndT X W c mc) (hb : SndSs X W b body mb) : SndS X W b (.While c body [] pos) (mWhile mc mb) := fun H0 F0 F ρ σ H D f g hp => by
  refine ws_of (ps_while cx.own pt_wt pss_wss) ?_
  rcases mWhile_cases mc mb ρ with h | ⟨n, h⟩
  · rw [h] at hp; exact hp.elim
  rw [h] at hp
  refine ⟨fun m σ H => ∃ F ρ, Fr0 H0 F0 b ρ σ F H ∧ Good X.K F ρ σ H ∧ PostS X W b H0 F0 (whileF mc mb m ρ) D, ⟨n, F, ρ, f, g, hp⟩, ?_⟩
  rintro m σ H ⟨F, ρ, f, g, hp⟩
  cases m with
  | zero => exact hp.elim
  | succ m =>
    rw [whileF] at hp
    refine hc F ρ σ H _ g (Post.sr f hp fun F1 ρ1 H1 k v _ f1 g1 r hp1 => ?_)
    cases (show k = v from r)
    cases k with
    | false => exact hp1 F1 σ H1 f1 g1
    | true =>
      simp only [if_true] at hp1 ⊢
      refine ⟨fun σ' H' => ∃ F ρ, Fr0 H0 F0 b ρ σ' F H' ∧ Good X.K F ρ σ' H' ∧ PostS X W b H0 F0 (whileF mc mb m ρ) D, fun σ' H' z => ⟨m, Nat.lt_succ_self _, z⟩, ?_⟩
      refine hb H0 F0 F1 ρ1 σ H1 _ f1 g1 ?_
      cases e : mb ρ1 with
      | nx ρ2 => rw [e] at hp1; exact fun F' σ' H' f' g' => ⟨F', ρ2, f', g', hp1⟩
      | ct ρ2 => rw [e] at hp1; exact fun F' σ' H' f' g' => ⟨F', ρ2, f', g', hp1⟩
      | bk ρ2 => rw [e] at hp1; exact hp1
      | rt p r => rw [e] at hp1; exact hp1
      | rf p r => rw [e] at hp1; exact hp1
      | exc x r => rw [e] at hp1; exact hp1
      | bad => rw [e] at hp1; exact hp1
/-! ### what is walked -/
/-- at a turn: the item as it lies, or a tuple just made -/
def ItemAt (K : PySem.W.Frag) (F H : Hp) (p : PV) (x : V) (H' : Hp) : Prop :=
  (H' = H ∧ Rep K F p x) ∨ (∃ T o, H T = none ∧ H' = upd H T o ∧ Rep K (upd F T o) p x) ∨ ∃ T o T' o', H T = none ∧ upd H T o T' = none ∧ H' = upd (upd H T o) T' o' ∧ Rep K (upd (upd F T o) T' o') p x
structure IterOk (K : PySem.W.Frag) (F1 : Hp) (J : It) (ps : List PV) : Prop where
  ex : ∃ G Y, Walk J ps.length G Y ∧ (∀ H2, Same F1 H2 → G H2) ∧ ∀ (i : Nat) p F2 H2 x H3, ps[i]? = some p → Same F1 F2 → Same F2 H2 → Y i H2 x H3 → ItemAt K F2 H2 p x H3
@[irreducible] def WI (X : Cx) (tg iter : Expr) : TI := fun σ H R => ∀ (pins : List (Addr × Obj)) (s : Shared), Inv X pins σ H s →
  wpAny (model X.prog X.w) X.A (eval iter X.env) (fun v s1 => wpAny (model X.prog X.w) X.A (pyIter v) (PIE X pins σ tg R) X.xe s1) X.xe s
theorem pi_wi {tg iter : Expr} : PI X tg iter (WI X tg iter) := ⟨fun pins s _ _ _ I h => by unfold WI at h; exact h pins s I⟩
theorem wi_of {tg iter : Expr} {w : TI} {σ : St} {H : Hp} {R : It → Hp → Prop} (p : PI X tg iter w) (h : w σ H R) : WI X tg iter σ H R := by unfold WI; exact fun pins s I => p.run pins s σ H R I h
abbrev MI := Rho → Res (List PV × Rho)
def repI (K : PySem.W.Frag) : RepT (List PV) It := fun _ F _ _ ps J => IterOk K F J ps
instance (K : PySem.W.Frag) : RepM (repI K) := ⟨fun _ _ _ _ _ _ _ _ h => h⟩
def SndI (X : Cx) (W : WX) (tg iter : Expr) (m : MI) : Prop :=
  ∀ (F : Hp) (ρ : Rho) (σ : St) (H : Hp) (R : It → Hp → Prop), Good X.K F ρ σ H → Post (repI X.K) X W F ρ σ H (m ρ) R → WI X tg iter σ H R
/-! a list, a tuple, a text by signs: values -/
def iSeq (K : PySem.W.Frag) (tl : TE) : TI := fun σ H R => tl σ H fun x H1 => (∃ a, x = .ref a ∧ (∃ xs, SqL K H1 a xs) ∧ R (Itl K a) H1) ∨ (∃ a, x = .ref a ∧ (∃ xs, SqT K H1 a xs) ∧ R (Itt K a) H1)
theorem pi_seq {tg l : Expr} {tl : TE} (hl : PE X l tl) : PI X tg l (iSeq X.K tl) := by
  refine ⟨fun pins s σ H R I h => ?_⟩
  refine thn (hl.run pins s σ H _ I h) fun v s1 ⟨x, H1, I1, r1, q1⟩ => ?_
  rcases q1 with ⟨a, e, ⟨xs, hq⟩, q⟩ | ⟨a, e, ⟨xs, hq⟩, q⟩
  · subst e
    cases r1
    obtain ⟨its, rv, p, hz⟩ := I1.list hq
    refine wpAny_pyIter_list p.isList ?_
    refine ⟨s1.heap.objs.size, [s1.heap.objs.size], _, _, H1, rfl, I1.kept (t' := s1.toks) fun b o e => Heap.get?_push_of_some _ e, turn_list a _, ⟨_, Heap.get?_push_size _ rfl, rfl, rfl⟩, fun b hb => ?_, q⟩
    have e : b = s1.heap.objs.size := by simpa using hb
    subst e
    exact I1.fpOk (Nat.le_refl _) (I1.hok.fresh (Nat.le_refl _))
  · subst e
    cases r1
    obtain ⟨its, rv, p, hz⟩ := I1.tuple hq
    refine wpAny_pyIter_tuple (show s1.heap.IsTuple a its.toArray from p) ?_
    refine ⟨s1.heap.objs.size, [s1.heap.objs.size], _, _, H1, rfl, I1.kept (t' := s1.toks) fun b o e => Heap.get?_push_of_some _ e, turn_tuple a _, ⟨_, Heap.get?_push_size _ rfl, rfl, rfl⟩, fun b hb => ?_, q⟩
    have e : b = s1.heap.objs.size := by simpa using hb
    subst e
    exact I1.fpOk (Nat.le_refl _) (I1.hok.fresh (Nat.le_refl _))
theorem IterOk.list {K : PySem.W.Frag} {F : Hp} {a : Addr} {ps : List PV} {vs : List V} (h : F a = some (.lst vs)) (r : Reps K F ps vs) : IterOk K F (Itl K a) ps := ⟨by
  refine ⟨_, _, r.length ▸ (walk_list (K := K) (a := a) (xs := vs)), fun H2 s => SqL.of (s _ _ h), fun i p F2 H2 x H3 e s1 s2 y => ?_⟩
  obtain ⟨rfl, hx⟩ := y
  obtain ⟨v, ev, rv⟩ := r.get e
  rw [ev] at hx
  cases hx
  exact .inl ⟨rfl, Rep.mono s1 _ _ rv⟩⟩
theorem IterOk.tup {K : PySem.W.Frag} {F : Hp} {a : Addr} {ps : List PV} {vs : List V} (h : F a = some (.tup vs)) (r : Reps K F ps vs) : IterOk K F (Itt K a) ps := ⟨by
  refine ⟨_, _, r.length ▸ (walk_tup (K := K) (a := a) (xs := vs)), fun H2 s => SqT.of (s _ _ h), fun i p F2 H2 x H3 e s1 s2 y => ?_⟩
  obtain ⟨rfl, hx⟩ := y
  obtain ⟨v, ev, rv⟩ := r.get e
  rw [ev] at hx
  cases hx
  exact .inl ⟨rfl, Rep.mono s1 _ _ rv⟩⟩
theorem IterOk.scr {K : PySem.W.Frag} {F : Hp} {a : Addr} {ns : List Int} (h : SqL K F a (ns.map V.int)) : IterOk K F (Itl K a) (ns.map .int) := ⟨by
  refine ⟨_, _, (by rw [List.length_map, ← List.length_map (f := V.int)]; exact walk_list (K := K) (a := a) (xs := ns.map V.int)), fun H2 s => s.seq h, fun i p F2 H2 x H3 e s1 s2 y => ?_⟩
  obtain ⟨rfl, hx⟩ := y
  rw [List.getElem?_map] at hx e
  cases en : ns[i]? with
  | none => rw [en] at e; cases e
  | some n =>
    rw [en] at hx e
    cases hx
    cases e
    exact .inl ⟨rfl, Rep.int⟩⟩
def pvSeq : PV → Option (List PV)
  | .lst xs => some xs
  | .tup xs => some xs
  | .scr ns => some (ns.map .int)
  | _ => none
def mSeqI (m : M) : MI := fun ρ => (m ρ).bnd fun p ρ1 => Res.of (pvSeq p) ρ1
theorem i_seq {tg e : Expr} {m : M} (h : SndE X W e m) : SndI X W tg e (mSeqI m) := fun F ρ σ H R g hp => by
  refine wi_of (pi_seq pe_we) ?_
  refine h.then g hp fun F1 ρ1 H1 p v st g1 rp hp1 => ?_
  obtain ⟨ps, eps⟩ := hp1.some
  unfold pvSeq at eps
  split at eps
  · unfold Rep at rp
    obtain ⟨a, vs, rfl, h1, h2⟩ := rp
    cases eps
    exact .inl ⟨a, rfl, ⟨_, SqL.of (g1.sub _ _ h1)⟩, hp1 F1 H1 _ Stp.refl g1 (IterOk.list h1 h2)⟩
  · unfold Rep at rp
    obtain ⟨a, vs, rfl, h1, h2⟩ := rp
    cases eps
    exact .inr ⟨a, rfl, ⟨_, SqT.of (g1.sub _ _ h1)⟩, hp1 F1 H1 _ Stp.refl g1 (IterOk.tup h1 h2)⟩
  · unfold Rep at rp
    obtain ⟨a, rfl, h1⟩ := rp
    cases eps
    exact .inl ⟨a, rfl, ⟨_, g1.sub.seq h1⟩, hp1 F1 H1 _ Stp.refl g1 (IterOk.scr h1)⟩
  · cases eps
/-! range -/
def rangeP (lo : Int) (n : Nat) : List PV := (List.range n).map fun (i : Nat) => .int (lo + i)
noncomputable def small62 (i : Int) : Bool := @decide (-(2 ^ 62) ≤ i ∧ i < 2 ^ 62) (Classical.propDecidable _)
noncomputable def pvRange : List PV → Option (List PV)
  | [.int j] => if small62 j then some (rangeP 0 j.toNat) else none
  | [.int i, .int j] => if small62 i && small62 j then some (rangeP i (j - i).toNat) else none
  | _ => none
theorem IterOk.range {K : PySem.W.Frag} {F : Hp} (lo : Int) (n : Nat) : IterOk K F (Itr lo n) (rangeP lo n) := ⟨by
  have hl : (rangeP lo n).length = n := by simp [rangeP]
  refine ⟨_, _, (show Walk _ (rangeP lo n).length _ _ by rw [hl]; exact walk_range (lo := lo) (n := n)), fun _ _ => trivial, fun i p F2 H2 x H3 e _ _ y => ?_⟩
  obtain ⟨rfl, rfl⟩ := y
  unfold rangeP at e
  rw [List.getElem?_map] at e
  cases er : (List.range n)[i]? with
  | none => rw [er] at e; cases e
  | some k =>
    rw [er] at e
    cases e
    have : k = i := by
      rw [List.getElem?_range] at er
      · cases er; rfl
      · by_cases h : i < n
        · exact h
        · rw [List.getElem?_eq_none (by simp; omega)] at er; cases er
    subst this
    exact .inl ⟨rfl, Rep.int⟩⟩
noncomputable def mRange (ms : List M) : MI := fun ρ => (mArgs ms ρ).bnd fun ps ρ1 => Res.of (pvRange ps) ρ1
section
variable {p : Pos} {tg e e2 : Expr} {m m' : M}
theorem i_range1 (hg : Gl X "range") (hm : X.mg "range" = none) (ha : SndE X W e m) (hs : starEach [e] X.env = [(false, eval e X.env)] := by rfl) : SndI X W tg (.Call (.Name "range" p) [e] [] pos) (mRange [m]) := fun F ρ σ H R g hp => by
  refine wi_of (pi_range1 hg hm pa_wa hs) ?_
  refine (sa_cons ha sa_nil hs).thenL g hp fun F1 ρ1 H1 ps vs st g1 rp len hp1 => ?_
  obtain ⟨z, ez⟩ := hp1.some
  unfold pvRange at ez
  split at ez
  · rename_i j
    split at ez
    · rename_i h
      cases ez
      obtain ⟨v, rfl, r⟩ := rp.one
      unfold Rep at r
      subst r
      have h' := h
      simp only [small62, decide_eq_true_eq] at h
      refine ⟨j, rfl, h.1, h.2, ?_⟩
      refine hp1.here (p := rangeP 0 j.toNat) ?_ g1 (IterOk.range _ _)
      simp only [pvRange]
      rw [if_pos h']
    · cases ez
  · simp at len
  · cases ez
theorem i_range2 (hg : Gl X "range") (hm : X.mg "range" = none) (ha : SndE X W e m) (hb : SndE X W e2 m') (hs : starEach [e, e2] X.env = [(false, eval e X.env), (false, eval e2 X.env)] := by rfl) (hs2 : starEach [e2] X.env = [(false, eval e2 X.env)] := by rfl) : SndI X W tg (.Call (.Name "range" p) [e, e2] [] pos) (mRange [m, m']) := fun F ρ σ H R g hp => by
  refine wi_of (pi_range2 hg hm pa_wa hs hs2) ?_
  refine (sa_cons ha (sa_cons hb sa_nil hs2) (by rw [hs, hs2])).thenL g hp fun F1 ρ1 H1 ps vs st g1 rp len hp1 => ?_
  obtain ⟨z, ez⟩ := hp1.some
  unfold pvRange at ez
  split at ez
  · simp at len
  · rename_i i j
    split at ez
    · rename_i h
      cases ez
      obtain ⟨v, w, rfl, r, r'⟩ := rp.two
      unfold Rep at r r'
      subst r r'
      have h' := h
      simp only [small62, Bool.and_eq_true, decide_eq_true_eq] at h
      refine ⟨i, j, rfl, ⟨h.1.1, h.1.2, h.2.1, h.2.2⟩, ?_⟩
      refine hp1.here (p := rangeP i (j - i).toNat) ?_ g1 (IterOk.range _ _)
      simp only [pvRange]
      rw [if_pos h']
    · cases ez
  · cases ez
/-! reversed -/
def pvRevI : PV → Option (List PV)
  | .lst xs => some xs.reverse
  | .tup xs => some xs.reverse
  | _ => none
def mRevI (m : M) : MI := fun ρ => (m ρ).bnd fun p ρ1 => Res.of (pvRevI p) ρ1
theorem walk_revT {K : PySem.W.Frag} {a : Addr} {xs : List V} : Walk (RT.ItvT K a xs.length) xs.length (fun H => SqT K H a xs) (fun i H x H' => H' = H ∧ xs[xs.length - 1 - i]? = some x) :=
  ⟨fun i _ hi q => ⟨hi, xs, xs[xs.length - 1 - i]'(by omega), q, by simp [show xs.length - 1 - i < xs.length by omega]⟩, fun _ _ => Nat.le_refl _, fun _ _ _ _ _ q y => ⟨y.1, y.2 xs q⟩⟩
theorem rev_get {α : Type} {ps : List α} {i : Nat} {p : α} (h : ps.reverse[i]? = some p) : ps[ps.length - 1 - i]? = some p ∧ i < ps.length := by
  have hi : i < ps.reverse.length := by
    by_cases z : i < ps.reverse.length
    · exact z
    · rw [List.getElem?_eq_none (by omega)] at h; cases h
  rw [List.length_reverse] at hi
  rw [List.getElem?_reverse hi] at h
  exact ⟨h, hi⟩
theorem i_rev (hg : Gl X "reversed") (hm : X.mg "reversed" = none) (h : SndE X W e m) (hs : starEach [e] X.env = (false, eval e X.env) :: starEach [] X.env := by rfl) : SndI X W tg (.Call (.Name "reversed" p) [e] [] pos) (mRevI m) := fun F ρ σ H R g hp => by
  refine wi_of (RT.pi_revA hg hm pe_we hs) ?_
  refine h.then g hp fun F1 ρ1 H1 q v st g1 rp hp1 => ?_
  obtain ⟨ps, eps⟩ := hp1.some
  unfold pvRevI at eps
  split at eps
  · rename_i xs
    unfold Rep at rp
    obtain ⟨a, vs, rfl, h1, h2⟩ := rp
    cases eps
    refine ⟨a, vs, rfl, .inl ⟨SqL.of (g1.sub _ _ h1), hp1 F1 H1 _ Stp.refl g1 ⟨?_⟩⟩⟩
    refine ⟨_, _, (show Walk _ xs.reverse.length _ _ by rw [List.length_reverse, h2.length]; exact walk_rev (K := X.K) (a := a) (xs := vs)), fun H2 s => SqL.of (s _ _ h1), fun i p F2 H2 x H3 e s1 s2 y => ?_⟩
    obtain ⟨rfl, hx⟩ := y
    obtain ⟨e1, e2⟩ := rev_get e
    obtain ⟨w, ew, rw'⟩ := h2.get e1
    rw [h2.length] at ew
    rw [ew] at hx
    cases hx
    exact .inl ⟨rfl, Rep.mono s1 _ _ rw'⟩
  · rename_i xs
    unfold Rep at rp
    obtain ⟨a, vs, rfl, h1, h2⟩ := rp
    cases eps
    refine ⟨a, vs, rfl, .inr ⟨SqT.of (g1.sub _ _ h1), hp1 F1 H1 _ Stp.refl g1 ⟨?_⟩⟩⟩
    refine ⟨_, _, (show Walk _ xs.reverse.length _ _ by rw [List.length_reverse, h2.length]; exact walk_revT (K := X.K) (a := a) (xs := vs)), fun H2 s => SqT.of (s _ _ h1), fun i p F2 H2 x H3 e s1 s2 y => ?_⟩
    obtain ⟨rfl, hx⟩ := y
    obtain ⟨e1, e2⟩ := rev_get e
    obtain ⟨w, ew, rw'⟩ := h2.get e1
    rw [h2.length] at ew
    rw [ew] at hx
    cases hx
    exact .inl ⟨rfl, Rep.mono s1 _ _ rw'⟩
  · cases eps
end
/-! ### for -/
def forL (g : MG) (body : MS) : List PV → Rho → SR
  | [], ρ => .nx ρ
  | p :: ps, ρ => match g p ρ with
    | none => .bad
    | some ρ1 => match body ρ1 with
      | .nx ρ2 => forL g body ps ρ2
      | .ct ρ2 => forL g body ps ρ2
      | .bk ρ2 => .nx ρ2
      | r => r
def mFor (mi : MI) (g : MG) (body : MS) : MS := fun ρ => (mi ρ).sr fun ps ρ1 => forL g body ps ρ1
theorem PostS.rebase {H0 F0 F H : Hp} {ρ : Rho} {σ : St} {r : SR} {D : Ends} (f : Fr0 H0 F0 b ρ σ F H) (h : PostS X W b H0 F0 r D) : PostS X W b H0 F r D := by
  match r, h with
  | .nx ρ', h => exact fun F' σ' H' f' g => h F' σ' H' (f.trans f') g
  | .rt p ρ', h => exact fun F' σ' H' v f' g r => h F' σ' H' v (f.trans f') g r
  | .rf p ρ', h => exact fun F' σ' H' v f' g r => h F' σ' H' v (f.trans f') g r
  | .bk ρ', h => exact fun F' σ' H' f' g => h F' σ' H' (f.trans f') g
  | .ct ρ', h => exact fun F' σ' H' f' g => h F' σ' H' (f.trans f') g
  | .exc x ρ', h => exact fun F' σ' H' cls d f' g r => h F' σ' H' cls d (f.trans f') g r
theorem st_for {ws : List Nat} {tg iter : Expr} {body : List Stmt} {mi : MI} {mg : MG} {mb : MS} (c : Ctx X W) (hi : SndI X W tg iter mi) (hg : SndG X b ws tg mg) (hb : SndSs X W b body mb) (hs : ∀ x, foldedSetIterable iter X.env x = pure x := by intro _; rfl) :
    SndS X W b (.For tg iter body [] pos) (mFor mi mg mb) := fun H0 F0 F ρ σ H D f g hp => by
  refine ws_of (ps_for c.own c.calm pi_wi pg_wg pss_wss hs) ?_
  refine hi F ρ σ H _ g (Post.sr f hp fun F1 ρ1 H1 ps J _ f1 g1 r hp1 => ?_)
  obtain ⟨G, Y, wk, hG, hY⟩ := r.ex
  refine for_it wk (fun i σ H => ∃ F ρ, Same F1 F ∧ Fr0 H0 F0 b ρ σ F H ∧ Good X.K F ρ σ H ∧ PostS X W b H0 F0 (forL mg mb (ps.drop i) ρ) D) ⟨F1, ρ1, Same.refl _, f1, g1, hp1⟩ (fun i σ H _ ⟨F, ρ, s, _, g, _⟩ => hG H (s.trans g.sub)) ?_ ?_
  · rintro i x σ H H' hi ⟨F, ρ, sF, f, g, hp⟩ y
    obtain ⟨p, ep⟩ : ∃ p, ps[i]? = some p := ⟨_, List.getElem?_eq_getElem hi⟩
    have ed : ps.drop i = p :: ps.drop (i + 1) := by
      have h1 := List.getElem?_eq_some_iff.mp ep
      rw [List.drop_eq_getElem_cons hi, h1.2]
    rw [ed, forL] at hp
    have main : ∀ F' H', Same F F' → Fr0 H0 F0 b ρ σ F' H' → Good X.K F' ρ σ H' → Rep X.K F' p x → WG X tg x σ H' fun σ2 H2 => WSs X body { D with nx := fun σ H => ∃ F ρ, Same F1 F ∧ Fr0 H0 F0 b ρ σ F H ∧ Good X.K F ρ σ H ∧ PostS X W b H0 F0 (forL mg mb (ps.drop (i + 1)) ρ) D, ct := fun σ H => ∃ F ρ, Same F1 F ∧ Fr0 H0 F0 b ρ σ F H ∧ Good X.K F ρ σ H ∧ PostS X W b H0 F0 (forL mg mb (ps.drop (i + 1)) ρ) D, bk := D.nx } σ2 H2 := fun F' H' sF' f' g' rp => by
      cases eg : mg p ρ with
      | none => rw [eg] at hp; exact hp.elim
      | some ρ2 =>
        rw [eg] at hp
        refine hg H0 F0 F' ρ σ H' p x ρ2 _ f' g' rp eg fun σ2 _ _ f2 g2 => ?_
        refine hb H0 F' F' ρ2 σ2 H' _ f2.rebase g2 ?_
        simp only at hp
        cases e : mb ρ2 with
        | nx ρ3 => rw [e] at hp; exact fun F'' σ'' H'' f'' g'' => ⟨F'', ρ3, (sF.trans sF').trans f''.ff, f2.trans f'', g'', hp⟩
        | ct ρ3 => rw [e] at hp; exact fun F'' σ'' H'' f'' g'' => ⟨F'', ρ3, (sF.trans sF').trans f''.ff, f2.trans f'', g'', hp⟩
        | bk ρ3 => rw [e] at hp; exact fun F'' σ'' H'' f'' g'' => hp F'' σ'' H'' (f2.trans f'') g''
        | rt q r => rw [e] at hp; exact PostS.rebase f2 hp
        | rf q r => rw [e] at hp; exact PostS.rebase f2 hp
        | exc q r => rw [e] at hp; exact PostS.rebase f2 hp
        | bad => rw [e] at hp; exact hp
    rcases hY i p F H x H' ep sF g.sub y with ⟨rfl, rp⟩ | ⟨T, o, hT, rfl, rp⟩ | ⟨T, o, T', o', hT, hT', rfl, rp⟩
    · exact main F H' (Same.refl _) f g rp
    · exact main (L2.upd F T o) _ (Same.upd (g.fnone hT)) (f.step (Stp.alloc g hT)) (g.alloc hT) rp
    · have g2 := g.alloc (o := o) hT
      exact main (L2.upd (L2.upd F T o) T' o') _ ((Same.upd (g.fnone hT)).trans (Same.upd (g2.fnone hT'))) ((f.step (Stp.alloc g hT)).step (Stp.alloc g2 hT')) (g2.alloc hT') rp
  · rintro σ H ⟨F, ρ, _, f, g, hp⟩
    rw [List.drop_of_length_le (Nat.le_refl _)] at hp
    exact hp F σ H f g
end
end Ev

set_option Elab.async false
set_option linter.all false
set_option maxRecDepth 100000
namespace Ev
open PySem L2
/-! ### list comprehensions -/
def wipeR (ρ : Rho) : List Nat → Rho
  | [] => ρ
  | v :: vs => (wipeR ρ vs).set v .emp
/-- the slots ws as they were in ρ0 -/
def backR (ρ0 ρ : Rho) : List Nat → Rho
  | [] => ρ
  | v :: vs => match ρ0[v]? with
    | some s => (backR ρ0 ρ vs).set v s
    | none => backR ρ0 ρ vs
theorem wipeR_len (ρ : Rho) : ∀ ws, (wipeR ρ ws).length = ρ.length
  | [] => rfl
  | w :: ws => by unfold wipeR; rw [List.length_set, wipeR_len ρ ws]
theorem wipeR_get {ρ : Rho} {i : Nat} : ∀ {ws : List Nat} {s : Slot}, (wipeR ρ ws)[i]? = some s → (i ∈ ws ∧ s = .emp) ∨ (i ∉ ws ∧ ρ[i]? = some s)
  | [], s, h => .inr ⟨by simp, h⟩
  | w :: ws, s, h => by
    unfold wipeR at h
    rcases get_set h with ⟨rfl, z⟩ | ⟨ne, z⟩
    · exact .inl ⟨List.mem_cons_self, z.symm⟩
    · rcases wipeR_get z with ⟨a, b⟩ | ⟨a, b⟩
      · exact .inl ⟨List.mem_cons_of_mem _ a, b⟩
      · exact .inr ⟨fun q => (List.mem_cons.mp q).elim (fun q => ne q.symm) a, b⟩
theorem wipe_get {σ : St} {i : Nat} : ∀ {ws : List Nat}, i ∉ ws → (wipe σ ws)[i]? = σ[i]? := fun h => wipe_out h
theorem backR_get {ρ0 ρ : Rho} {i : Nat} (hl : ρ.length = ρ0.length) : ∀ {ws : List Nat} {s : Slot}, (backR ρ0 ρ ws)[i]? = some s → (i ∈ ws ∧ ρ0[i]? = some s) ∨ (i ∉ ws ∧ ρ[i]? = some s)
  | [], s, h => .inr ⟨by simp, h⟩
  | w :: ws, s, h => by
    unfold backR at h
    split at h
    · rename_i s0 e0
      rcases get_set h with ⟨rfl, z⟩ | ⟨ne, z⟩
      · subst z; exact .inl ⟨List.mem_cons_self, e0⟩
      · rcases backR_get hl z with ⟨a, b⟩ | ⟨a, b⟩
        · exact .inl ⟨List.mem_cons_of_mem _ a, b⟩
        · exact .inr ⟨fun q => (List.mem_cons.mp q).elim (fun q => ne q.symm) a, b⟩
    · rename_i e0
      rcases backR_get hl h with ⟨a, b⟩ | ⟨a, b⟩
      · exact .inl ⟨List.mem_cons_of_mem _ a, b⟩
      · refine .inr ⟨fun q => (List.mem_cons.mp q).elim (fun q => ?_) a, b⟩
        subst q
        have : i < ρ.length := by
          by_cases z : i < ρ.length
          · exact z
          · rw [List.getElem?_eq_none (by omega)] at b; cases b
        rw [List.getElem?_eq_none_iff] at e0
        omega
theorem backR_len (ρ0 ρ : Rho) : ∀ ws, (backR ρ0 ρ ws).length = ρ.length
  | [] => rfl
  | w :: ws => by
    unfold backR
    split
    · rw [List.length_set, backR_len ρ0 ρ ws]
    · exact backR_len ρ0 ρ ws
section
variable {K : PySem.W.Frag} {F F' H H' : Hp} {ρ ρ' : Rho} {σ : St} {ws : List Nat}
theorem Good.wipe (g : Good K F ρ σ H) : Good K F (wipeR ρ ws) (wipe σ ws) H := by
  refine ⟨g.sub, by rw [wipeR_len, wipe_length]; exact g.len, fun i p e => ?_, fun i xs e => ?_, fun i j xs ys a e1 e2 e3 e4 => ?_⟩
  · rcases wipeR_get e with ⟨_, z⟩ | ⟨n, z⟩
    · cases z
    · rw [wipe_get n]; exact g.val i p z
  · rcases wipeR_get e with ⟨_, z⟩ | ⟨n, z⟩
    · cases z
    · rw [wipe_get n]; exact g.own i xs z
  · rcases wipeR_get e1 with ⟨_, z⟩ | ⟨n1, z1⟩
    · cases z
    · rcases wipeR_get e2 with ⟨_, z⟩ | ⟨n2, z2⟩
      · cases z
      · rw [wipe_get n1] at e3
        rw [wipe_get n2] at e4
        exact g.apart i j xs ys a z1 z2 e3 e4
/-- the own names' slots forgotten: where σ' differs from σ at them alone -/
theorem Good.wipe2 {σ' : St} (g : Good K F ρ σ' H) (h : L2.wipe σ' ws = L2.wipe σ ws) : Good K F (wipeR ρ ws) (L2.wipe σ ws) H := by
  rw [← h]; exact g.wipe
theorem notOwn_wipe {q : Addr} (n : NotOwn ρ σ q) : NotOwn (wipeR ρ ws) (wipe σ ws) q := fun i xs e z => by
  rcases wipeR_get e with ⟨_, w⟩ | ⟨m, w⟩
  · cases w
  · rw [wipe_get m] at z
    exact n i xs w z
/-- behind the block: the slots are as they were ahead of it -/
theorem Good.unwipe (g : Good K F ρ σ H) (g' : Good K F' ρ' (L2.wipe σ ws) H') (s : Stp (L2.wipe σ ws) F (wipeR ρ ws) H F' ρ' H') : Good K F' (backR ρ ρ' ws) σ H' ∧ Stp σ F ρ H F' (backR ρ ρ' ws) H' := by
  have hl : ρ'.length = ρ.length := by
    rw [g'.len, wipe_length, g.len]
  have own1 : ∀ (i : Nat) xs, i ∉ ws → ρ'[i]? = some (.own xs) → ∃ ys, ρ[i]? = some (.own ys) := fun i xs n e => by
    obtain ⟨ys, e'⟩ := s.os i xs e
    rcases wipeR_get e' with ⟨_, z⟩ | ⟨_, z⟩
    · cases z
    · exact ⟨ys, z⟩
  have ownB : ∀ (i : Nat) xs, (backR ρ ρ' ws)[i]? = some (.own xs) → ∃ ys, ρ[i]? = some (.own ys) := fun i xs e => by
    rcases backR_get hl e with ⟨_, z⟩ | ⟨n, z⟩
    · exact ⟨xs, z⟩
    · exact own1 i xs n z
  refine ⟨⟨g'.sub, by rw [backR_len, hl]; exact g.len, fun i p e => ?_, fun i xs e => ?_, fun i j xs ys a e1 e2 e3 e4 => ?_⟩, ⟨s.ff, ownB, fun q o e n => s.kp q o e (notOwn_wipe n), fun q o e f n => s.nf q o e f (notOwn_wipe n), s.ex⟩⟩
  · rcases backR_get hl e with ⟨_, z⟩ | ⟨n, z⟩
    · obtain ⟨v, e1, e2⟩ := g.val i p z
      exact ⟨v, e1, Rep.mono s.ff _ _ e2⟩
    · obtain ⟨v, e1, e2⟩ := g'.val i p z
      rw [wipe_get n] at e1
      exact ⟨v, e1, e2⟩
  · rcases backR_get hl e with ⟨m, z⟩ | ⟨n, z⟩
    · obtain ⟨a, vs, e1, e2, e3, e4⟩ := g.own i xs z
      have no : NotOwn (wipeR ρ ws) (L2.wipe σ ws) a := fun j ys ej zj => by
        rcases wipeR_get ej with ⟨_, w⟩ | ⟨nj, w⟩
        · cases w
        · rw [wipe_get nj] at zj
          have := g.apart i j xs ys a z w e1 zj
          subst this
          exact nj m
      exact ⟨a, vs, e1, s.nf a _ e3 e2 no, s.kp a _ e3 no, Reps.mono s.ff _ _ e4⟩
    · obtain ⟨a, vs, e1, e2⟩ := g'.own i xs z
      rw [wipe_get n] at e1
      exact ⟨a, vs, e1, e2⟩
  · obtain ⟨zs, z1⟩ := ownB i xs e1
    obtain ⟨us, z2⟩ := ownB j ys e2
    exact g.apart i j zs us a z1 z2 e3 e4
/-- a cell that is nobody's is written -/
theorem Good.updD {D : Addr} {o : HO} (g : Good K F ρ σ H) (f : F D = none) (n : NotOwn ρ σ D) : Good K F ρ σ (upd H D o) := by
  refine ⟨fun b x e => ?_, g.len, g.val, fun i xs e => ?_, g.apart⟩
  · have nb : b ≠ D := fun z => by rw [z, f] at e; cases e
    rw [upd_ne nb]; exact g.sub b x e
  · obtain ⟨a, vs, e1, e2, e3, e4⟩ := g.own i xs e
    have nb : a ≠ D := fun z => n i xs e (by rw [e1, z])
    exact ⟨a, vs, e1, e2, by rw [upd_ne nb]; exact e3, e4⟩
end
def noX {α : Type} (r : Res α) : Res α := match r with
  | .exc _ _ => .bad
  | r => r
/-- the turns of a comprehension -/
def compL (g : MG) (t : MT) (elt : M) (ws : List Nat) : List PV → List PV → Rho → Res (List PV × Rho)
  | [], acc, ρ => .ok (acc, ρ)
  | p :: ps, acc, ρ => match g p ρ with
    | none => .bad
    | some ρ1 => match t ρ1 with
      | .ok (true, ρ2) => match elt ρ2 with
        | .ok (y, ρ3) => if acc.length < sizeLine then compL g t elt ws ps (acc ++ [y]) (wipeR ρ3 ws) else .bad
        | _ => .bad
      | .ok (false, ρ2) => compL g t elt ws ps acc (wipeR ρ2 ws)
      | _ => .bad
def mComp (mi : MI) (g : MG) (t : MT) (elt : M) (ws : List Nat) : MF := fun ρ => (mi ρ).bnd fun ps ρ1 => (noX (compL g t elt ws ps [] (wipeR ρ1 ws))).bnd fun ys ρ2 => .ok (ys, backR ρ1 ρ2 ws)
def mYes : MT := fun ρ => .ok (true, ρ)
section
variable {X : Cx} {W : WX} {pos : Pos}
/-- an expression, a target, a test in the block, whatever the block's own places are -/
def WEu (X : Cx) (scope : Scope) (e : Expr) : TE := fun σ H Q => ∀ (s : Shared) (H1 : Hp) (C : Addr) (cl : List (Str × Addr)) (fp : List Addr), WE (X.blk s H1 scope (compEnvC scope cl C X.env) fp) e σ H Q
def WGu (X : Cx) (scope : Scope) (tg : Expr) : TG := fun v σ H Q => ∀ (s : Shared) (H1 : Hp) (C : Addr) (cl : List (Str × Addr)) (fp : List Addr), WG (X.blk s H1 scope (compEnvC scope cl C X.env) fp) tg v σ H Q
def WTsu (X : Cx) (scope : Scope) (ifs : List Expr) : TT := fun σ H Q => ∀ (s : Shared) (H1 : Hp) (C : Addr) (cl : List (Str × Addr)) (fp : List Addr) (pins : List (Addr × Obj)) (s' : Shared), Inv (X.blk s H1 scope (compEnvC scope cl C X.env) fp) pins σ H s' →
  wpAny (model X.prog X.w) X.A (forIn ifs true fun c r => if r = true then do let ok ← isTrue c (compEnvC scope cl C X.env) (eval c (compEnvC scope cl C X.env)); pure (ForInStep.yield ok) else pure (ForInStep.yield r)) (TP (X.blk s H1 scope (compEnvC scope cl C X.env) fp) pins σ Q) (fun _ _ => False) s'
/-- the tests of a comprehension -/
def SndTs (X : Cx) (W : WX) (scope : Scope) (ifs : List Expr) (m : MT) : Prop :=
  ∀ (F : Hp) (ρ : Rho) (σ : St) (H : Hp) (Q : Bool → Hp → Prop), Good X.K F ρ σ H → Post repT X W0 F ρ σ H (m ρ) Q → WTsu X scope ifs σ H Q
theorem ts_nil {scope : Scope} : SndTs X W scope [] mYes := fun F ρ σ H Q g hp s H1 C cl fp pins s' I =>
  (pts_nil (X := X.blk s H1 scope (compEnvC scope cl C X.env) fp)).run pins s' σ H Q I (hp F H true Stp.refl g rfl)
theorem ts_one {scope : Scope} {c : Expr} {m : MT} (h : ∀ (s : Shared) (H : Hp) (C : Addr) (cl : List (Str × Addr)) (fp : List Addr), SndT (X.blk s H scope (compEnvC scope cl C X.env) fp) W0 c m) : SndTs X W scope [c] m := fun F ρ σ H Q g hp s H1 C cl fp pins s' I =>
  (pts_one (X := X.blk s H1 scope (compEnvC scope cl C X.env) fp) pt_wt).run pins s' σ H Q I (h s H1 C cl fp F ρ σ H Q g hp)
theorem wipe_idem {σ : St} {ws : List Nat} : wipe (wipe σ ws) ws = wipe σ ws := by
  have : ∀ (us : List Nat), (∀ u ∈ us, u ∈ ws) → wipe (wipe σ us) ws = wipe σ ws := by
    intro us
    induction us with
    | nil => intro _; rfl
    | cons u us ih =>
      intro h
      show wipe ((wipe σ us).set u none) ws = _
      rw [wipe_set (h u List.mem_cons_self)]
      exact ih fun v hv => h v (List.mem_cons_of_mem _ hv)
  exact this ws fun _ h => h
/-- what a comprehension's turns keep: D the new list -/
structure CompAt (K : PySem.W.Frag) (ws : List Nat) (F1 : Hp) (ρ1 : Rho) (H1 : Hp) (σ : St) (D : Addr) (acc : List PV) (ρ : Rho) (F H : Hp) : Prop where
  g : Good K F ρ σ H
  st : Stp σ F1 ρ1 H1 F ρ H
  hD : ∃ vs, H D = some (.lst vs) ∧ Reps K F acc vs
  fD : F D = none
  nD : NotOwn ρ σ D
  nw : ∀ i ∈ ws, ∀ xs, ρ[i]? ≠ some (.own xs)
theorem nw_wipe {ρ : Rho} {ws : List Nat} : ∀ i ∈ ws, ∀ xs, (wipeR ρ ws)[i]? ≠ some (.own xs) := fun i hi xs e => by
  rcases wipeR_get e with ⟨_, z⟩ | ⟨n, _⟩
  · cases z
  · exact n hi
/-- a turn's steps, seen from the block's own names forgotten -/
theorem Stp.turn {ws : List Nat} {σw σ2 : St} {F' F3 H' H3 : Hp} {ρ ρ2 ρ3 : Rho} (s : Stp σ2 F' ρ2 H' F3 ρ3 H3) (hw : wipe σ2 ws = σw) (ho : ∀ (i : Nat) xs, ρ2[i]? = some (.own xs) → ρ[i]? = some (.own xs)) (nw : ∀ i ∈ ws, ∀ xs, ρ[i]? ≠ some (.own xs)) :
    Stp σw F' ρ H' F3 (wipeR ρ3 ws) H3 ∧ ∀ q, NotOwn ρ σw q → NotOwn ρ2 σ2 q := by
  have no : ∀ q, NotOwn ρ σw q → NotOwn ρ2 σ2 q := fun q n i xs e z => by
    have e' := ho i xs e
    have hi : i ∉ ws := fun h => nw i h xs e'
    refine n i xs e' ?_
    rw [← hw, wipe_get hi]
    exact z
  refine ⟨⟨s.ff, fun i xs e => ?_, fun q o e n => s.kp q o e (no q n), fun q o e f n => s.nf q o e f (no q n), s.ex⟩, no⟩
  rcases wipeR_get e with ⟨_, z⟩ | ⟨_, z⟩
  · cases z
  · obtain ⟨ys, z2⟩ := s.os i xs z
    exact ⟨ys, ho i ys z2⟩
/-- what is left of the turns is wanted -/
def CompPost (K : PySem.W.Frag) (ws : List Nat) (F1 : Hp) (ρ1 : Rho) (H1 : Hp) (σ : St) (D : Addr) (Qd : Hp → Prop) (r : Res (List PV × Rho)) : Prop := match r with
  | .ok (ys, ρ2) => ∀ F2 H2, CompAt K ws F1 ρ1 H1 σ D ys ρ2 F2 H2 → Qd H2
  | _ => False
theorem comp_run {ws : List Nat} {tg : Expr} {ifs : List Expr} {elt : Expr} {scope : Scope} {mg : MG} {mt : MT} {me : M}
    (hg : ∀ (s : Shared) (H : Hp) (C : Addr) (cl : List (Str × Addr)) (fp : List Addr), SndG (X.blk s H scope (compEnvC scope cl C X.env) fp) none ws tg mg)
    (ht : SndTs X W scope ifs mt)
    (he : ∀ (s : Shared) (H : Hp) (C : Addr) (cl : List (Str × Addr)) (fp : List Addr), SndE (X.blk s H scope (compEnvC scope cl C X.env) fp) W0 elt me)
    {F1 H1 : Hp} {ρ1 : Rho} {σ : St} {J : It} {ps : List PV} {D : Addr} {Qd : Hp → Prop} (g1 : Good X.K F1 ρ1 σ H1) (r : IterOk X.K F1 J ps) (nD : H1 D = none)
    (hp : CompPost X.K ws F1 (wipeR ρ1 ws) H1 (wipe σ ws) D Qd (compL mg mt me ws ps [] (wipeR ρ1 ws))) :
    ∃ W : Nat → Nat → Hp → Prop, (∃ m, W 0 m (upd H1 D (.lst []))) ∧ ∀ i m H, W i m H →
      (J.stop i H ∧ Qd H) ∨ (J.go i H ∧ ∃ Nx : Hp → Prop, (∀ H', Nx H' → ∃ m', m' < m ∧ W (i + 1) m' H') ∧ ∀ x H', J.yld i H x H' → WGu X scope tg x (wipe σ ws) H' fun σ2 H2 => wipe σ2 ws = wipe σ ws ∧ WTsu X scope ifs σ2 H2 fun b H3 =>
        if b = true then WEu X scope elt σ2 H3 fun y H4 => ∃ acc, H4 D = some (.lst acc) ∧ acc.length < sizeLine ∧ Nx (upd H4 D (.lst (acc ++ [y]))) else Nx H3) := by
  obtain ⟨G, Y, wk, hG, hY⟩ := r.ex
  refine lc_it wk (fun i H => ∃ F ρ acc, CompAt X.K ws F1 (wipeR ρ1 ws) H1 (wipe σ ws) D acc ρ F H ∧ CompPost X.K ws F1 (wipeR ρ1 ws) H1 (wipe σ ws) D Qd (compL mg mt me ws (ps.drop i) acc ρ)) ?_ ?_ ?_ ?_
  · refine ⟨F1, wipeR ρ1 ws, [], ⟨g1.wipe.lay nD, Stp.lay nD, ⟨[], upd_same, Reps.nil⟩, g1.fnone nD, fun i xs e z => ?_, nw_wipe⟩, hp⟩
    obtain ⟨a, vs, e1, e2, e3, e4⟩ := g1.wipe.own i xs e
    rw [e1] at z
    cases z
    rw [nD] at e3
    cases e3
  · rintro i H _ ⟨F, ρ, acc, A, _⟩
    exact hG H (A.st.ff.trans A.g.sub)
  · rintro i x H H' hi ⟨F, ρ, acc, A, hp⟩ y
    obtain ⟨p, ep⟩ : ∃ p, ps[i]? = some p := ⟨_, List.getElem?_eq_getElem hi⟩
    have ed : ps.drop i = p :: ps.drop (i + 1) := by
      have h1 := List.getElem?_eq_some_iff.mp ep
      rw [List.drop_eq_getElem_cons hi, h1.2]
    rw [ed, compL] at hp
    generalize ps.drop (i + 1) = rest at hp ⊢
    have main : ∀ F' H', CompAt X.K ws F1 (wipeR ρ1 ws) H1 (wipe σ ws) D acc ρ F' H' → Rep X.K F' p x → WGu X scope tg x (wipe σ ws) H' fun σ2 H2 => wipe σ2 ws = wipe σ ws ∧ WTsu X scope ifs σ2 H2 fun b H3 =>
        if b = true then WEu X scope elt σ2 H3 fun y H4 => ∃ acc, H4 D = some (.lst acc) ∧ acc.length < sizeLine ∧ ∃ F ρ acc', CompAt X.K ws F1 (wipeR ρ1 ws) H1 (wipe σ ws) D acc' ρ F (upd H4 D (.lst (acc ++ [y]))) ∧ CompPost X.K ws F1 (wipeR ρ1 ws) H1 (wipe σ ws) D Qd (compL mg mt me ws rest acc' ρ)
        else ∃ F ρ acc', CompAt X.K ws F1 (wipeR ρ1 ws) H1 (wipe σ ws) D acc' ρ F H3 ∧ CompPost X.K ws F1 (wipeR ρ1 ws) H1 (wipe σ ws) D Qd (compL mg mt me ws rest acc' ρ) := fun F' H' A rp => by
      cases eg : mg p ρ with
      | none => rw [eg] at hp; exact hp.elim
      | some ρ2 =>
        rw [eg] at hp
        simp only at hp
        intro s0 H0 C cl fp
        have fr : Fr0 (fun _ => none) (fun _ => none) none ρ (wipe σ ws) F' H' := ⟨fun _ _ z => (nomatch z), fun _ _ _ z => (nomatch z), fun _ _ _ z => (nomatch z), fun _ _ _ _ _ => .inl rfl, fun _ z => (nomatch z), fun _ _ => rfl⟩
        refine hg s0 H0 C cl fp _ _ F' ρ (wipe σ ws) H' p x ρ2 _ fr A.g rp eg fun σ2 hw ho _ g2 => ?_
        rw [wipe_idem] at hw
        refine ⟨hw, ?_⟩
        obtain ⟨vs, hvs, rvs⟩ := A.hD
        refine ht F' ρ2 σ2 H' _ g2 ?_
        cases et : mt ρ2 with
        | bad => rw [et] at hp; exact hp.elim
        | exc e r => rw [et] at hp; exact hp.elim
        | ok z =>
          obtain ⟨k, ρ3⟩ := z
          rw [et] at hp
          intro F3 H3 v st3 g3 ev
          cases (show k = v from ev)
          cases k with
          | false =>
            rw [if_neg (by decide)]
            obtain ⟨st', no⟩ := Stp.turn st3 hw ho A.nw
            have nD2 : NotOwn ρ2 σ2 D := no D A.nD
            have gw : Good X.K F3 (wipeR ρ3 ws) (wipe σ ws) H3 := by
              have := g3.wipe (ws := ws)
              rw [hw] at this
              exact this
            refine ⟨F3, wipeR ρ3 ws, acc, ⟨gw, A.st.trans st', ⟨vs, st3.kp D _ hvs nD2, Reps.mono st3.ff _ _ rvs⟩, st3.nf D _ hvs A.fD nD2, ?_, nw_wipe⟩, hp⟩
            have := notOwn_wipe (ws := ws) (nD2.sub st3.os)
            rw [hw] at this
            exact this
          | true =>
            rw [if_pos rfl]
            intro s0 H0 C cl fp
            refine he s0 H0 C cl fp F3 ρ3 σ2 H3 _ g3 ?_
            simp only at hp
            cases ee : me ρ3 with
            | bad => rw [ee] at hp; exact hp.elim
            | exc e r => rw [ee] at hp; exact hp.elim
            | ok z =>
              obtain ⟨y, ρ4⟩ := z
              rw [ee] at hp
              simp only at hp
              intro F4 H4 w st4 g4 rw'
              split at hp
              · rename_i hl
                have st34 := st3.trans st4
                obtain ⟨st', no⟩ := Stp.turn st34 hw ho A.nw
                have nD2 : NotOwn ρ2 σ2 D := no D A.nD
                have hD4 := st34.kp D _ hvs nD2
                have fD4 := st34.nf D _ hvs A.fD nD2
                have nD4 : NotOwn (wipeR ρ4 ws) (wipe σ ws) D := by
                  have := notOwn_wipe (ws := ws) (nD2.sub st34.os)
                  rw [hw] at this
                  exact this
                have gw : Good X.K F4 (wipeR ρ4 ws) (wipe σ ws) H4 := by
                  have := g4.wipe (ws := ws)
                  rw [hw] at this
                  exact this
                have stA := A.st.trans st'
                refine ⟨vs, hD4, by rw [← rvs.length]; exact hl, F4, wipeR ρ4 ws, acc ++ [y], ⟨gw.updD fD4 nD4, ⟨stA.ff, stA.os, fun q o e n => ?_, stA.nf, fun q e => ?_⟩, ⟨_, upd_same, (Reps.mono st34.ff _ _ rvs).append (Reps.cons rw' Reps.nil)⟩, fD4, nD4, nw_wipe⟩, hp⟩
                · rw [upd_ne (ne_of_none e nD)]; exact stA.kp q o e n
                · by_cases z : q = D
                  · rw [z]; exact nD
                  · rw [upd_ne z] at e; exact stA.ex q e
              · exact hp.elim
    have lay1 : ∀ F H T o, CompAt X.K ws F1 (wipeR ρ1 ws) H1 (wipe σ ws) D acc ρ F H → H T = none → CompAt X.K ws F1 (wipeR ρ1 ws) H1 (wipe σ ws) D acc ρ (L2.upd F T o) (L2.upd H T o) := fun F H T o A hT => by
      obtain ⟨vs, hvs, rvs⟩ := A.hD
      have nT : D ≠ T := ne_of_none hvs hT
      have sF : Same F (L2.upd F T o) := Same.upd (A.g.fnone hT)
      exact ⟨A.g.alloc hT, A.st.trans (Stp.alloc A.g hT), ⟨vs, by rw [upd_ne nT]; exact hvs, Reps.mono sF _ _ rvs⟩, by rw [upd_ne nT]; exact A.fD, A.nD, A.nw⟩
    rcases hY i p F H x H' ep A.st.ff A.g.sub y with ⟨rfl, rp⟩ | ⟨T, o, hT, rfl, rp⟩ | ⟨T, o, T', o', hT, hT', rfl, rp⟩
    · exact main F H' A rp
    · exact main _ _ (lay1 F H T o A hT) rp
    · exact main _ _ (lay1 _ _ T' o' (lay1 F H T o A hT) hT') rp
  · rintro H ⟨F, ρ, acc, A, hp⟩
    rw [List.drop_of_length_le (Nat.le_refl _)] at hp
    exact hp F H A
theorem comp_tLc {ws : List Nat} {tg iter : Expr} {ifs : List Expr} {elt : Expr} {scope : Scope} {mi : MI} {mg : MG} {mt : MT} {me : M}
    (hi : SndI X W tg iter mi)
    (hg : ∀ (s : Shared) (H : Hp) (C : Addr) (cl : List (Str × Addr)) (fp : List Addr), SndG (X.blk s H scope (compEnvC scope cl C X.env) fp) none ws tg mg)
    (ht : SndTs X W scope ifs mt)
    (he : ∀ (s : Shared) (H : Hp) (C : Addr) (cl : List (Str × Addr)) (fp : List Addr), SndE (X.blk s H scope (compEnvC scope cl C X.env) fp) W0 elt me)
    {F H : Hp} {ρ : Rho} {σ : St} {Q : VK} (g : Good X.K F ρ σ H) (hp : Post (repF X.K σ) X W F ρ σ H (mComp mi mg mt me ws ρ) Q) :
    tLc (WI X tg iter) (WGu X scope tg) (WTsu X scope ifs) (WEu X scope elt) ws σ H Q := by
  refine hi F ρ σ H _ g (Post.bind hp fun F1 ρ1 H1 ps J st g1 r hp1 => ?_)
  intro D nD
  refine comp_run hg ht he g1 r nD ?_
  cases ec : compL mg mt me ws ps [] (wipeR ρ1 ws) with
  | bad => rw [ec] at hp1; exact hp1.elim
  | exc x r => rw [ec] at hp1; exact hp1.elim
  | ok z =>
    obtain ⟨ys, ρ2⟩ := z
    rw [ec] at hp1
    intro F2 H2 A
    obtain ⟨g', st'⟩ := g1.unwipe A.g A.st
    obtain ⟨vs, hvs, rvs⟩ := A.hD
    refine hp1 F2 H2 (.ref D) st' g' ⟨D, vs, rfl, nD, A.fD, fun i xs e z => ?_, hvs, rvs⟩
    obtain ⟨zs, e1⟩ := st'.os i xs e
    obtain ⟨a, ws', e2, e3, e4, e5⟩ := g1.own i zs e1
    rw [e2] at z
    cases z
    rw [nD] at e4
    cases e4
section
variable {ws : List Nat} {tg iter : Expr} {ifs : List Expr} {elt : Expr} {scope : Scope} {own : List (Str × Nat)} {mi : MI} {mg : MG} {mt : MT} {me : M}
theorem f_comp (c : Ctx X W) (hi : SndI X W tg iter mi) (ok : BlkOk X.N X.env.scope scope own)
    (hg : ∀ (s : Shared) (H : Hp) (C : Addr) (cl : List (Str × Addr)) (fp : List Addr), SndG (X.blk s H scope (compEnvC scope cl C X.env) fp) none (own.map (·.2)) tg mg)
    (ht : SndTs X W scope ifs mt)
    (he : ∀ (s : Shared) (H : Hp) (C : Addr) (cl : List (Str × Addr)) (fp : List Addr), SndE (X.blk s H scope (compEnvC scope cl C X.env) fp) W0 elt me) (hs : ∀ x, foldedSetIterable iter X.env x = pure x := by intro _; rfl) :
    SndF X W (.ListComp elt [⟨tg, iter, ifs, 0⟩] scope pos) (mComp mi mg mt me (own.map (·.2))) := fun F ρ σ H Q g hp => by
  refine we_of (pe_lc (own := own) (g := WGu X scope tg) (tt := WTsu X scope ifs) (te := WEu X scope elt) c.calm c.nd pi_wi ok (fun s H C cl fp => ⟨fun pins s' σ H1 v u Q I r h => pg_wg.run pins s' σ H1 v u Q I r (h s H C cl fp)⟩) (fun s H C cl fp => ⟨fun pins s' σ H' Q I h => h s H C cl fp pins s' I⟩) (fun s H C cl fp => ⟨fun pins s' σ H' Q I h => pe_we.run pins s' σ H' Q I (h s H C cl fp)⟩) hs) ?_
  exact comp_tLc hi hg ht he g hp
theorem s_comp (c : Ctx X W) (hi : SndI X W tg iter mi) (ok : BlkOk X.N X.env.scope scope own)
    (hg : ∀ (s : Shared) (H : Hp) (C : Addr) (cl : List (Str × Addr)) (fp : List Addr), SndG (X.blk s H scope (compEnvC scope cl C X.env) fp) none (own.map (·.2)) tg mg)
    (ht : SndTs X W scope ifs mt)
    (he : ∀ (s : Shared) (H : Hp) (C : Addr) (cl : List (Str × Addr)) (fp : List Addr), SndE (X.blk s H scope (compEnvC scope cl C X.env) fp) W0 elt me) (hs : ∀ x, foldedSetIterable iter X.env x = pure x := by intro _; rfl) :
    SndE X W (.ListComp elt [⟨tg, iter, ifs, 0⟩] scope pos) (mFrz (mComp mi mg mt me (own.map (·.2)))) := (f_comp c hi ok hg ht he hs).snd
/-- name = [..] on one line, the name a local -/
theorem st_comp {b : Option Addr} {i : Nat} {y : Str} {py spos : Pos} (c : Ctx X W) (hy : X.N[i]? = some y) (hyl : X.env.scope.names.lookup y = some .local)
    (hsw : swapsWith (.ListComp elt [⟨tg, iter, ifs, 0⟩] scope pos) (some (.Name y py)) spos.line X.env = pure true) (hi : SndI X W tg iter mi) (ok : BlkOk X.N X.env.scope scope own)
    (hg : ∀ (s : Shared) (H : Hp) (C : Addr) (cl : List (Str × Addr)) (fp : List Addr), SndG (X.blk s H scope (compEnvC scope cl C X.env) fp) none (own.map (·.2)) tg mg)
    (ht : SndTs X W scope ifs mt)
    (he : ∀ (s : Shared) (H : Hp) (C : Addr) (cl : List (Str × Addr)) (fp : List Addr), SndE (X.blk s H scope (compEnvC scope cl C X.env) fp) W0 elt me) (hb : b = none ∨ i ≠ 0) (hs : ∀ x, foldedSetIterable iter X.env x = pure x := by intro _; rfl) :
    SndS X W b (.Assign [.Name y py] (.ListComp elt [⟨tg, iter, ifs, 0⟩] scope pos) spos) (mSetF i (mComp mi mg mt me (own.map (·.2)))) := fun H0 F0 F ρ σ H D f g hp => by
  refine ws_of (ps_setLc (own := own) (g := WGu X scope tg) (tt := WTsu X scope ifs) (te := WEu X scope elt) c.calm c.nd hy hyl hsw pi_wi ok (fun s H C cl fp => ⟨fun pins s' σ H1 v u Q I r h => pg_wg.run pins s' σ H1 v u Q I r (h s H C cl fp)⟩) (fun s H C cl fp => ⟨fun pins s' σ H' Q I h => h s H C cl fp pins s' I⟩) (fun s H C cl fp => ⟨fun pins s' σ H' Q I h => pe_we.run pins s' σ H' Q I (h s H C cl fp)⟩) hs) ?_
  refine comp_tLc hi hg ht he g (Post.sr f hp fun F1 ρ1 H1 p v _ f1 g1 r hp1 => ?_)
  obtain ⟨a, vs, rfl, hn, fa, no, ha, rv⟩ := r
  exact hp1 F1 _ H1 (f1.setOwn hb (f.ex a hn)) (g1.setOwn fa no ha rv)
end
end
/-! ### a def by its body's mirror -/
def startR (N : List Str) (ps : List PV) : Rho := ps.map .val ++ List.replicate (N.length - ps.length) .emp
def runP (N : List Str) (m : MS) : FP := fun ps => match m (startR N ps) with
  | .nx _ => .ok .non
  | .rt p _ => .ok p
  | .exc x _ => .exc x
  | _ => .bad
def runF (N : List Str) (m : MS) : FF := fun ps => match m (startR N ps) with
  | .rf xs _ => .ok xs
  | .exc x _ => .exc x
  | _ => .bad
def own0 : Rho → Option (List PV)
  | .own ys :: _ => some ys
  | _ => none
theorem own0_get {ρ : Rho} {ys : List PV} (h : own0 ρ = some ys) : ρ[0]? = some (.own ys) := by
  unfold own0 at h
  split at h
  · cases h; rfl
  · cases h
def runB (N : List Str) (m : MS) : FB := fun xs ps => match m (.own xs :: startR (N.drop 1) ps) with
  | .nx ρ => match own0 ρ with
    | some ys => .ok .non ys
    | none => .bad
  | .rt p ρ => match own0 ρ with
    | some ys => .ok p ys
    | none => .bad
  | .exc x ρ => match own0 ρ with
    | some ys => .exc x ys
    | none => .bad
  | _ => .bad
theorem start_good {K : PySem.W.Frag} {F H : Hp} {N : List Str} {ps : List PV} {vs : List V} (s : Same F H) (r : Reps K F ps vs) (hl : vs.length ≤ N.length) : Good K F (startR N ps) (L2.start N vs) H := by
  have len := r.length
  have notOwn : ∀ (i : Nat) xs, (startR N ps)[i]? ≠ some (.own xs) := fun i xs e => by
    unfold startR at e
    by_cases hi : i < (ps.map Slot.val).length
    · rw [List.getElem?_append_left hi, List.getElem?_map] at e
      cases h : ps[i]? with
      | none => rw [h] at e; cases e
      | some p => rw [h] at e; cases e
    · rw [List.getElem?_append_right (by omega), List.getElem?_replicate] at e
      split at e <;> cases e
  refine ⟨s, ?_, fun i p e => ?_, fun i xs e => absurd e (notOwn i xs), fun i j xs ys a e1 => absurd e1 (notOwn i xs)⟩
  · unfold startR L2.start
    simp [len]
  · unfold startR at e
    by_cases hi : i < (ps.map Slot.val).length
    · rw [List.getElem?_append_left hi, List.getElem?_map] at e
      cases h : ps[i]? with
      | none => rw [h] at e; cases e
      | some q =>
        rw [h] at e
        cases e
        obtain ⟨v, ev, rv⟩ := r.get h
        refine ⟨v, ?_, rv⟩
        unfold L2.start
        rw [List.getElem?_append_left (by rw [List.length_map] at hi ⊢; omega), List.getElem?_map, ev]
        rfl
    · rw [List.getElem?_append_right (by omega), List.getElem?_replicate] at e
      split at e <;> cases e
theorem startR_notOwn {N : List Str} {qs : List PV} {i : Nat} {xs : List PV} (e : (startR N qs)[i]? = some (.own xs)) : False := by
  unfold startR at e
  by_cases hi : i < (qs.map Slot.val).length
  · rw [List.getElem?_append_left hi, List.getElem?_map] at e
    cases h : qs[i]? with
    | none => rw [h] at e; cases e
    | some p => rw [h] at e; cases e
  · rw [List.getElem?_append_right (by omega), List.getElem?_replicate] at e
    split at e <;> cases e
section
variable {P : Program} {w : World} {K : PySem.W.Frag} {mg : Str → Option Value} {base : Heap}
variable {x qual : Str} {st : Stmt} {f : Addr} {fd : FuncData} {N ps : List Str} {k : Nat}
/-- the context of a def's body -/
abbrev bodyX (P : Program) (w : World) (K : PySem.W.Frag) (mg : Str → Option Value) (base : Heap) (N : List Str) (qual : Str) (st : Stmt) (f : Addr) (cdv : Value) (A : Around) (outer : List Env) (s : Shared) (H : Hp) (E : XK) : Cx := cxOf (L2.CX P w) P w K mg base N qual (defScope st) f cdv A outer s H E
theorem body_ctx {cdv : Value} {A : Around} {outer : List Env} {s : Shared} {H : Hp} {E : XK} (nd : N.Nodup) (hr : Room k (A.deeper (PyProof.Rows.envOfC qual (defScope st) s.heap.objs.size f cdv))) (gd : A.guards = some []) : Ctx (bodyX P w K mg base N qual st f cdv A outer s H E) (fun cls d _ H => E cls d H) :=
  ⟨takes_of rfl rfl rfl rfl, passes_of rfl, rfl, nd, hr.units, gd⟩
theorem fn_pure {m : MS} (F : Fun K x qual st f fd) (S : FnScope N ps (defScope st)) (hN : ps.length ≤ N.length)
    (hbody : ∀ (cdv : Value) (A : Around) (outer : List Env) (s : Shared) (H : Hp) (E : XK), Room k (bodyX P w K mg base N qual st f cdv A outer s H E).A → Ctx (bodyX P w K mg base N qual st f cdv A outer s H E) (fun cls d _ H => E cls d H) →
      SndSs (bodyX P w K mg base N qual st f cdv A outer s H E) (fun cls d _ H => E cls d H) none (defBody st) m) :
    FnG P w K mg base (L2.CX P w) (k + 1) f fd ps (spP K mg ps.length (runP N m)) := by
  refine fun_okG F S (fun vs H Q E h => h.1) fun cdv A outer s H vs Q E hr gd0 h => ?_
  obtain ⟨hl, F0, qs, sF, rq, h⟩ := h
  refine ⟨_, pss_wss, ?_⟩
  refine hbody cdv A outer s H E hr (body_ctx S.nd hr gd0) H F0 F0 (startR N qs) (L2.start N vs) H _ ⟨Same.refl _, fun _ _ _ e => e, fun _ _ _ _ n => n, fun i xs a e z => (startR_notOwn e).elim, fun _ z => (nomatch z), fun _ e => e⟩ (start_good sF rq (by omega)) ?_
  · unfold runP at h
    have fin : ∀ {F' H' : Hp} {ρ' : Rho} {σ' : St}, Fr0 H F0 none ρ' σ' F' H' → Same H H' ∧ NewF H F0 F' := fun fr => ⟨fun q o e => fr.keep q o (by simp) e, fun q o e n => fr.nf q o (by simp) e n⟩
    cases e : m (startR N qs) with
    | nx ρ' => rw [e] at h; exact fun F' σ' H' fr g => h F' H' _ fr.ff g.sub (fin fr).1 (fin fr).2 Rep.non
    | rt p ρ' => rw [e] at h; exact fun F' σ' H' v fr g r => h F' H' v fr.ff g.sub (fin fr).1 (fin fr).2 r
    | exc y ρ' => rw [e] at h; exact fun F' σ' H' cls d fr g r => h F' H' cls d fr.ff g.sub (fin fr).1 (fin fr).2 r
    | rf p ρ' => rw [e] at h; exact h.elim
    | bk ρ' => rw [e] at h; exact h.elim
    | ct ρ' => rw [e] at h; exact h.elim
    | bad => rw [e] at h; exact h.elim
theorem fn_fresh {m : MS} (F : Fun K x qual st f fd) (S : FnScope N ps (defScope st)) (hN : ps.length ≤ N.length)
    (hbody : ∀ (cdv : Value) (A : Around) (outer : List Env) (s : Shared) (H : Hp) (E : XK), Room k (bodyX P w K mg base N qual st f cdv A outer s H E).A → Ctx (bodyX P w K mg base N qual st f cdv A outer s H E) (fun cls d _ H => E cls d H) →
      SndSs (bodyX P w K mg base N qual st f cdv A outer s H E) (fun cls d _ H => E cls d H) none (defBody st) m) :
    FnG P w K mg base (L2.CX P w) (k + 1) f fd ps (spF K mg ps.length (runF N m)) := by
  refine fun_okG F S (fun vs H Q E h => h.1) fun cdv A outer s H vs Q E hr gd0 h => ?_
  obtain ⟨hl, F0, qs, sF, rq, h⟩ := h
  refine ⟨_, pss_wss, ?_⟩
  refine hbody cdv A outer s H E hr (body_ctx S.nd hr gd0) H F0 F0 (startR N qs) (L2.start N vs) H _ ⟨Same.refl _, fun _ _ _ e => e, fun _ _ _ _ n => n, fun i xs a e z => (startR_notOwn e).elim, fun _ z => (nomatch z), fun _ e => e⟩ (start_good sF rq (by omega)) ?_
  unfold runF at h
  have fin : ∀ {F' H' : Hp} {ρ' : Rho} {σ' : St}, Fr0 H F0 none ρ' σ' F' H' → Same H H' ∧ NewF H F0 F' := fun fr => ⟨fun q o e => fr.keep q o (by simp) e, fun q o e n => fr.nf q o (by simp) e n⟩
  cases e : m (startR N qs) with
  | nx ρ' => rw [e] at h; exact h.elim
  | rt p ρ' => rw [e] at h; exact h.elim
  | exc y ρ' => rw [e] at h; exact fun F' σ' H' cls d fr g r => h F' H' cls d fr.ff g.sub (fin fr).1 (fin fr).2 r
  | rf p ρ' =>
    rw [e] at h
    intro F' σ' H' v fr g r
    obtain ⟨a, ws, rfl, hn, fa, no, ha, rv⟩ := r
    exact h F' H' a ws fr.ff g.sub (fin fr).1 (fin fr).2 hn fa ha rv
  | bk ρ' => rw [e] at h; exact h.elim
  | ct ρ' => rw [e] at h; exact h.elim
  | bad => rw [e] at h; exact h.elim
theorem fn_box {m0 : MS} {p0 : Str} {ps' : List Str} (hps : ps = p0 :: ps') (F : Fun K x qual st f fd) (S : FnScope N ps (defScope st)) (hN : ps.length ≤ N.length)
    (hbody : ∀ (b : Addr) (cdv : Value) (A : Around) (outer : List Env) (s : Shared) (H : Hp) (E : XK), Room k (bodyX P w K mg base N qual st f cdv A outer s H E).A → Ctx (bodyX P w K mg base N qual st f cdv A outer s H E) (fun cls d _ H => E cls d H) →
      SndSs (bodyX P w K mg base N qual st f cdv A outer s H E) (fun cls d _ H => E cls d H) (some b) (defBody st) m0) :
    FnG P w K mg base (L2.CX P w) (k + 1) f fd ps (spB K mg ps'.length (runB N m0)) := by
  have hpl : ps.length = ps'.length + 1 := by rw [hps]; rfl
  refine fun_okG F S (fun vs H Q E h => by rw [hpl]; exact h.1) fun cdv A outer s H vs Q E hr gd0 h => ?_
  obtain ⟨hl, F0, b, bs, xs, qs, rest, rfl, sF, fb, hb, rb, rq, h⟩ := h
  refine ⟨_, pss_wss, ?_⟩
  have hNl : (N.drop 1).length = N.length - 1 := List.length_drop
  have hrl : rest.length = ps'.length := by simpa using hl
  have g0 := start_good (N := N.drop 1) sF rq (by omega)
  have es : L2.start N (.ref b :: rest) = some (.ref b) :: L2.start (N.drop 1) rest := by
    unfold L2.start
    have : N.length - (V.ref b :: rest).length = (N.drop 1).length - rest.length := by rw [List.length_cons]; omega
    rw [this]; rfl
  have gd : Good K F0 (.own xs :: startR (N.drop 1) qs) (L2.start N (.ref b :: rest)) H := by
    rw [es]
    refine ⟨sF, by rw [List.length_cons, List.length_cons, g0.len], fun i p e => ?_, fun i ys e => ?_, fun i j ys zs a e1 e2 e3 e4 => ?_⟩
    · cases i with
      | zero => simp at e
      | succ i => exact g0.val i p (by simpa using e)
    · cases i with
      | zero =>
        simp at e
        subst e
        exact ⟨b, bs, rfl, fb, hb, rb⟩
      | succ i => exact (startR_notOwn (by simpa using e)).elim
    · cases i with
      | zero =>
        cases j with
        | zero => rfl
        | succ j => exact (startR_notOwn (by simpa using e2)).elim
      | succ i => exact (startR_notOwn (by simpa using e1)).elim
  refine hbody b cdv A outer s H E hr (body_ctx S.nd hr gd0) H F0 F0 (.own xs :: startR (N.drop 1) qs) (L2.start N (.ref b :: rest)) H _ ⟨Same.refl _, fun _ _ _ e => e, fun _ _ _ _ n => n, fun i ys a e z => ?_, fun a z => ?_, fun _ e => e⟩ gd ?_
  · cases i with
    | zero =>
      rw [es] at z
      simp at z
      subst z
      exact .inr rfl
    | succ i => exact (startR_notOwn (by simpa using e)).elim
  · cases z; rw [es]; rfl
  · unfold runB at h
    have fin : ∀ {F' H' : Hp} {ρ' : Rho} {σ' : St} {ys : List PV}, Fr0 H F0 (some b) ρ' σ' F' H' → Good K F' ρ' σ' H' → own0 ρ' = some ys → SameBut b H H' ∧ NewFB b H F0 F' ∧ ∃ bs', F' b = none ∧ H' b = some (.lst bs') ∧ Reps K F' ys bs' := fun {F' H' ρ' σ' ys} fr g e => by
      refine ⟨fun q o n e => fr.keep q o (by intro z; cases z; exact n rfl) e, fun q o n e f => fr.nf q o (by intro z; cases z; exact n rfl) e f, ?_⟩
      obtain ⟨a, vs, e1, e2, e3, e4⟩ := g.own 0 ys (own0_get e)
      have := fr.io b rfl
      rw [e1] at this
      cases this
      exact ⟨vs, e2, e3, e4⟩
    cases e : m0 (.own xs :: startR (N.drop 1) qs) with
    | nx ρ' =>
      rw [e] at h
      cases eo : own0 ρ' with
      | none => simp only [eo] at h
      | some ys =>
        simp only [eo] at h
        intro F' σ' H' fr g
        obtain ⟨a1, a2, bs', a3, a4, a5⟩ := fin fr g eo
        exact h F' H' _ bs' fr.ff g.sub a3 a4 a5 a1 a2 Rep.non
    | rt p ρ' =>
      rw [e] at h
      cases eo : own0 ρ' with
      | none => simp only [eo] at h
      | some ys =>
        simp only [eo] at h
        intro F' σ' H' v fr g r
        obtain ⟨a1, a2, bs', a3, a4, a5⟩ := fin fr g eo
        exact h F' H' v bs' fr.ff g.sub a3 a4 a5 a1 a2 r
    | exc y ρ' =>
      rw [e] at h
      cases eo : own0 ρ' with
      | none => simp only [eo] at h
      | some ys =>
        simp only [eo] at h
        intro F' σ' H' cls d fr g r
        obtain ⟨a1, a2, bs', a3, a4, a5⟩ := fin fr g eo
        exact h F' H' cls d bs' fr.ff g.sub a3 a4 a5 a1 a2 r
    | rf p ρ' => rw [e] at h; exact h.elim
    | bk ρ' => rw [e] at h; exact h.elim
    | ct ρ' => rw [e] at h; exact h.elim
    | bad => rw [e] at h; exact h.elim
end
end Ev

set_option Elab.async false
set_option linter.all false
set_option maxRecDepth 100000
namespace Ev
open PySem L2
section
variable {X : Cx} {W : WX} {b : Option Addr} {pos : Pos}
/-! a + b of lists, a new list of one's own -/
def pvCat : PV → PV → Option (List PV)
  | .lst xs, .lst ys => if xs.length + ys.length ≤ sizeLine then some (xs ++ ys) else none
  | _, _ => none
def mCat (a c : M) : MF := fun ρ => (a ρ).bnd fun p ρ1 => (c ρ1).bnd fun q ρ2 => Res.of (pvCat p q) ρ2
theorem f_cat {a c : Expr} {ma mc : M} (ha : SndE X W a ma) (hc : SndE X W c mc) : SndF X W (.BinOp a .Add c pos) (mCat ma mc) := fun F ρ σ H Q g hp => by
  refine we_of (pe_op op_cat pe_we pe_we) ?_
  refine ha.then g hp fun F1 ρ1 H1 p x _ g1 rp hp1 => ?_
  refine hc.then g1 hp1 fun F2 ρ2 H2 q y st2 g2 rq hp2 => ?_
  obtain ⟨z, ez⟩ := hp2.some
  rw [ez] at hp2
  unfold pvCat at ez
  split at ez
  · split at ez
    · rename_i xs ys hl
      cases ez
      have rp' := Rep.mono st2.ff _ _ rp
      unfold Rep at rp' rq
      obtain ⟨a1, vs, rfl, h1, h2⟩ := rp'
      obtain ⟨b1, ws, rfl, h3, h4⟩ := rq
      rw [h2.length, h4.length] at hl
      exact ⟨a1, b1, vs, ws, rfl, rfl, g2.sub _ _ h1, g2.sub _ _ h3, hl, Post.newF g2 hp2 (h2.append h4)⟩
    · cases ez
  · cases ez
/-! [..] * n, a new list of one's own -/
def pvRepL : PV → PV → Option (List PV)
  | .lst xs, .int k => if -(2 ^ 63) ≤ k ∧ k < 2 ^ 63 ∧ xs.length * k.toNat ≤ sizeLine then some (List.replicate k.toNat xs).flatten else none
  | _, _ => none
def mRepL (a c : M) : MF := fun ρ => (a ρ).bnd fun p ρ1 => (c ρ1).bnd fun q ρ2 => Res.of (pvRepL p q) ρ2
theorem f_rep {a c : Expr} {ma mc : M} (ha : SndE X W a ma) (hc : SndE X W c mc) : SndF X W (.BinOp a .Mult c pos) (mRepL ma mc) := fun F ρ σ H Q g hp => by
  refine we_of (pe_op op_rep pe_we pe_we) ?_
  refine ha.then g hp fun F1 ρ1 H1 p x _ g1 rp hp1 => ?_
  refine hc.then g1 hp1 fun F2 ρ2 H2 q y st2 g2 rq hp2 => ?_
  obtain ⟨z, ez⟩ := hp2.some
  rw [ez] at hp2
  unfold pvRepL at ez
  split at ez
  · split at ez
    · rename_i xs k h
      cases ez
      have rp' := Rep.mono st2.ff _ _ rp
      unfold Rep at rp' rq
      obtain ⟨a1, vs, rfl, h1, h2⟩ := rp'
      exact ⟨a1, k, vs, rfl, rq, g2.sub _ _ h1, h.1, h.2.1, by rw [← h2.length]; exact h.2.2, Post.newF g2 hp2 (h2.rep _)⟩
    · cases ez
  · cases ez
/-! l.index(x) -/
def findIx (d : PyData) : List PyData → Nat → Option Nat
  | [], _ => none
  | z :: zs, k => if PyData.eqv z d = true then some k else findIx d zs (k + 1)
theorem findIx_spec (d : PyData) : ∀ (zs : List PyData) (k j : Nat), findIx d zs k = some j → ∃ i, j = k + i ∧ (∃ z, zs[i]? = some z ∧ PyData.eqv z d = true) ∧ ∀ m z', m < i → zs[m]? = some z' → PyData.eqv z' d = false
  | [], k, j, h => by cases h
  | z :: zs, k, j, h => by
    unfold findIx at h
    split at h
    · rename_i e
      cases h
      exact ⟨0, rfl, ⟨z, rfl, e⟩, fun m z' hm => by omega⟩
    · rename_i e
      obtain ⟨i, rfl, ⟨y, hy, ey⟩, hno⟩ := findIx_spec d zs (k + 1) j h
      refine ⟨i + 1, by omega, ⟨y, by simpa using hy, ey⟩, fun m z' hm hz => ?_⟩
      cases m with
      | zero => simp at hz; subst hz; simpa using e
      | succ m => exact hno m z' (by omega) (by simpa using hz)
def pvIndex (xs : List PV) (q : PV) : Option PV := if okD 12 (.lst xs) && okD 12 q then (findIx (pvD q) (pvDs xs) 0).map fun j => .int (j : Nat) else none
def mIndex (a e : M) : M := fun ρ => (a ρ).bnd fun p ρ1 => match p with
  | .lst xs => (e ρ1).bnd fun q ρ2 => Res.of (pvIndex xs q) ρ2
  | _ => .bad
theorem s_index {a e : Expr} {ma me : M} {apos cpos : Pos} (hu : X.A.units + 65 < cLine) (ha : SndE X W a ma) (he : SndE X W e me)
    (hbase : attributeBase a "index" X.env (eval a X.env) = eval a X.env := by rfl)
    (hfew : ((backTo cpos (starEach [e] X.env)).all (fun x => !x.1) && (backToKw cpos (keywordEach [] X.env)).all (fun x => x.1.isSome)
      && decide (([e] : List Expr).length + ([] : List Keyword).length + (if ([] : List Keyword).isEmpty then 0 else 1) < 30)) = true := by rfl)
    (hline : (apos.endLine == cpos.line) = true := by rfl) (hs : starEach [e] X.env = [(false, eval e X.env)] := by rfl) :
    SndE X W (.Call (.Attribute a "index" apos) [e] [] cpos) (mIndex ma me) := fun F ρ σ H Q g hp => by
  refine we_of (pe_bm PySem.F.plainAttrs_list PySem.F.slot_list_index PySem.F.type_list_index (mt_indexD hu) pe_we (pa_cons pe_we pa_nil hs) hbase hfew hline hs rfl) ?_
  refine ha.then g hp fun F1 ρ1 H1 p x _ g1 rp hp1 => ?_
  split at hp1
  · rename_i xs
    have rp0 := rp
    unfold Rep at rp
    obtain ⟨a1, vs, rfl, h1, h2⟩ := rp
    refine ⟨.inl ⟨rfl, _, SqL.of (g1.sub _ _ h1)⟩, he.then g1 hp1 fun F2 ρ2 H2 q y st2 g2 rq hp2 => ?_⟩
    obtain ⟨z, ez⟩ := hp2.some
    rw [ez] at hp2
    unfold pvIndex at ez
    split at ez
    · rename_i hok
      rw [Bool.and_eq_true] at hok
      cases ej : findIx (pvD q) (pvDs xs) 0 with
      | none => rw [ej] at ez; cases ez
      | some j =>
        rw [ej] at ez
        cases ez
        obtain ⟨i, e0, ⟨d, hd, ed⟩, hno⟩ := findIx_spec _ _ _ _ ej
        have e1 : j = i := by omega
        subst e1
        have r1 := Rep.mono g2.sub _ _ (Rep.mono st2.ff _ _ rp0)
        have r2 := Rep.mono g2.sub _ _ rq
        have d1 := (okD_dp 12 _ _ hok.1 r1).1
        rw [pvD] at d1
        have s1 := shaped_of hok.1 r1
        rw [pvD] at s1
        exact ⟨a1, y, _, _, j, d, rfl, rfl, d1, (okD_dp 12 _ _ hok.2 r2).1, s1, shaped_of hok.2 r2, hd, ed, hno, hp2 F2 H2 _ Stp.refl g2 Rep.int⟩
    · cases ez
  · exact hp1.elim
/-! {k: v, ..}, d[k] -/
def keyP : PV → Option Key
  | .int i => some (.inl i)
  | .str x => some (.inr x)
  | _ => none
def lookP : List Key → List PV → Key → Option PV
  | k :: ks, v :: vs, q => if k = q then some v else lookP ks vs q
  | _, _, _ => none
def pvDix (p q : PV) : Option PV := match p with
  | .dic ks vs => (keyP q).bind fun k => lookP ks vs k
  | _ => none
theorem lookP_val {K : PySem.W.Frag} {F : Hp} {q : Key} {z : PV} : ∀ {ks : List Key} {ps : List PV} {vs : List V}, ks.length = vs.length → Reps K F ps vs → lookP ks ps q = some z → ∃ v, valV (ks.zip vs) q = some v ∧ Rep K F z v
  | [], ps, vs, hl, r, h => by cases ps <;> cases h
  | k :: ks, [], vs, hl, r, h => by cases h
  | k :: ks, p :: ps, vs, hl, r, h => by
    obtain ⟨v, ws, rfl, r1, r2⟩ := r.inv
    unfold lookP at h
    rw [List.zip_cons_cons]
    split at h
    · rename_i e
      cases h
      exact ⟨v, valV_pos e, r1⟩
    · rename_i e
      rw [valV_neg e]
      exact lookP_val (by simpa using hl) r2 h
theorem keyP_V {K : PySem.W.Frag} {F : Hp} {q : PV} {k : Key} {y : V} (h : keyP q = some k) (r : Rep K F q y) : y = kV k := by
  cases q <;> cases h <;> (unfold Rep at r; subst r; rfl)
theorem s_dix {a e : Expr} {ma me : M} (hu : X.A.units + 1 < cLine) (ha : SndE X W a ma) (he : SndE X W e me) (hs : NoSl e := by exact fun _ _ => rfl) : SndE X W (.Subscript a e pos) (m2 pvDix ma me) := fun F ρ σ H Q g hp => by
  refine we_of (pe_dget hu pe_we pe_we hs) ?_
  refine ha.then g hp fun F1 ρ1 H1 p x _ g1 rp hp1 => ?_
  refine he.then g1 hp1 fun F2 ρ2 H2 q y st2 g2 rq hp2 => ?_
  obtain ⟨z, ez⟩ := hp2.some
  rw [ez] at hp2
  unfold pvDix at ez
  split at ez
  · rename_i ks vs
    cases ek : keyP q with
    | none => rw [ek] at ez; cases ez
    | some k =>
      rw [ek] at ez
      have rp' := Rep.mono st2.ff _ _ rp
      unfold Rep at rp'
      obtain ⟨a1, ws, rfl, h1, h2, h3⟩ := rp'
      obtain ⟨v, hv, rv⟩ := lookP_val h2 h3 ez
      exact ⟨a1, v, rfl, .inl ⟨_, k, .inl (g2.sub _ _ h1), keyP_V ek rq, hv.symm⟩, hp2 F2 H2 _ Stp.refl g2 rv⟩
  · cases ez
theorem putK_new {kvs : List (Key × V)} {k : Key} {v : V} (h : k ∉ kvs.map (·.1)) : putK kvs k v = kvs ++ [(k, v)] := by
  unfold putK
  rw [if_neg]
  intro z
  rw [List.any_eq_true] at z
  obtain ⟨kv, hm, e⟩ := z
  exact h (List.mem_map.mpr ⟨kv, hm, of_decide_eq_true e⟩)
theorem mergeK_nodup : ∀ (more acc : List (Key × V)), ((acc ++ more).map (·.1)).Nodup → mergeK acc more = acc ++ more
  | [], acc, _ => by simp [mergeK]
  | (k, v) :: r, acc, h => by
    have h' : ((acc ++ [(k, v)] ++ r).map (·.1)).Nodup := by simpa using h
    have ih := mergeK_nodup r (acc ++ [(k, v)]) h'
    unfold mergeK at ih ⊢
    rw [List.foldl_cons, putK_new, ih]
    · simp
    · intro z
      rw [List.map_append, List.nodup_append] at h
      exact h.2.2 k z k (by simp) rfl
/-- a dict's entries with written keys -/
def SndD (X : Cx) (W : WX) (pos : Pos) (keys : List (Option Expr)) (vals : List Expr) (ks : List Key) (ms : List M) : Prop :=
  ∃ trs, PPs X pos keys vals trs ∧ ∀ (F : Hp) (ρ : Rho) (σ : St) (H : Hp) (R : List (V × V) → Hp → Prop), Good X.K F ρ σ H →
    (match mArgs ms ρ with
      | .ok (ps, ρ1) => ∀ F1 H1 vs, Stp σ F ρ H F1 ρ1 H1 → Good X.K F1 ρ1 σ H1 → Reps X.K F1 ps vs → R ((ks.zip vs).map fun kv => (kV kv.1, kv.2)) H1
      | _ => False) → tPairs trs σ H R
theorem sd_nil : SndD X W pos [] [] [] [] := ⟨[], pps_nil, fun F ρ σ H R g hp => hp F H [] Stp.refl g Reps.nil⟩
theorem sd_cons {k : Key} {ke ve : Expr} {keys : List (Option Expr)} {vals : List Expr} {ks : List Key} {m : M} {ms : List M} (hk : PE X ke (tC (kV k))) (hv : SndE X W ve m) (hr : SndD X W pos keys vals ks ms) : SndD X W pos (some ke :: keys) (ve :: vals) (k :: ks) (m :: ms) := by
  obtain ⟨trs, hp, hs⟩ := hr
  refine ⟨_, pps_cons hk pe_we hp, fun F ρ σ H R g hq => ?_⟩
  show WE X ve σ H fun y H2 => _
  refine hv F ρ σ H _ g ?_
  unfold mArgs at hq
  cases e : m ρ with
  | bad => rw [e] at hq; exact hq
  | exc x r => rw [e] at hq; exact hq.elim
  | ok z =>
    obtain ⟨p, ρ1⟩ := z
    rw [e] at hq
    simp only [Res.bnd_ok] at hq
    intro F1 H1 v st1 g1 rv
    refine hs F1 ρ1 σ H1 _ g1 ?_
    cases e2 : mArgs ms ρ1 with
    | bad => rw [e2] at hq; exact hq
    | exc x r => rw [e2] at hq; exact hq
    | ok z =>
      obtain ⟨ps, ρ2⟩ := z
      rw [e2] at hq
      intro F2 H2 vs st2 g2 rvs
      exact hq F2 H2 (v :: vs) (st1.trans st2) g2 (Reps.cons (Rep.mono st2.ff _ _ rv) rvs)
def mDict (ks : List Key) (ms : List M) : M := fun ρ => match mArgs ms ρ with
  | .ok (ps, ρ1) => .ok (.dic ks ps, ρ1)
  | _ => .bad
theorem s_dict {keys : List (Option Expr)} {vals : List Expr} {ks : List Key} {ms : List M} (h : SndD X W pos keys vals ks ms) (nd : ks.Nodup) (hl : ks.length = ms.length := by rfl) (hall : keys.all (·.isSome) = true := by rfl) (hkl : keys.length = vals.length := by rfl) (h0 : keys ≠ [] := by intro z; cases z) (h15 : keys.length ≤ 15 := by decide) (hks : ks.length ≤ 15 := by decide) :
    SndE X W (.Dict keys vals pos) (mDict ks ms) := fun F ρ σ H Q g hp => by
  obtain ⟨trs, hpp, hs⟩ := h
  refine we_of (pe_disp hpp hall hkl h0 h15) ?_
  intro p np
  refine hs F ρ σ _ _ (g.lay np) ?_
  unfold mDict at hp
  cases e : mArgs ms ρ with
  | bad => rw [e] at hp; exact hp
  | exc x r => rw [e] at hp; exact hp
  | ok z =>
    obtain ⟨ps, ρ1⟩ := z
    rw [e] at hp
    intro F1 H1 vs st1 g1 rvs
    have nop : NotOwn ρ σ p := fun i xs ei z => by
      obtain ⟨a, ws, e1, e2, e3, e4⟩ := g.own i xs ei
      rw [e1] at z
      cases z
      rw [np] at e3
      cases e3
    have hp1 : H1 p = some (.dK []) := st1.kp p _ upd_same nop
    have fp1 : F1 p = none := st1.nf p _ upd_same (g.fnone np) nop
    have no1 : NotOwn ρ1 σ p := nop.sub st1.os
    have len : ks.length = vs.length := by rw [← rvs.length, mArgs_len e, hl]
    have sF : Same F1 (L2.upd F1 p (.dK (ks.zip vs))) := Same.upd fp1
    have em : mergeK [] (ks.zip vs) = ks.zip vs := by
      have := mergeK_nodup (ks.zip vs) [] (by
        rw [List.nil_append, List.map_fst_zip (by omega)]
        exact nd)
      simpa using this
    refine ⟨hp1, ks.zip vs, rfl, by rw [List.length_zip]; omega, ?_⟩
    rw [em]
    have gD := g1.updD (o := .dK (ks.zip vs)) fp1 no1
    have gF := gD.freeze upd_same fp1 no1
    refine hp (L2.upd F1 p (.dK (ks.zip vs))) _ (.ref p) ⟨st1.ff.trans sF, st1.os, fun q o eq n => ?_, fun q o eq f n => ?_, fun q eq => ?_⟩ gF ?_
    · rw [upd_ne (ne_of_none eq np)]
      exact st1.kp q o (by rw [upd_ne (ne_of_none eq np)]; exact eq) n
    · rw [upd_ne (ne_of_none eq np)]
      exact st1.nf q o (by rw [upd_ne (ne_of_none eq np)]; exact eq) f n
    · by_cases z : q = p
      · rw [z]; exact np
      · rw [upd_ne z] at eq
        have := st1.ex q eq
        rw [upd_ne z] at this
        exact this
    · show Rep _ _ _ _
      unfold Rep
      exact ⟨p, vs, rfl, upd_same, len, Reps.mono sF _ _ rvs⟩
/-! zip of two lists, of two tuples -/
def pairP (p q : PV) : PV := .tup [p, q]
def pvZip : List PV → Option (List PV)
  | [.lst xs, .lst ys] => some (List.zipWith pairP xs ys)
  | [.tup xs, .tup ys] => some (List.zipWith pairP xs ys)
  | _ => none
def mZip (ms : List M) : MI := fun ρ => (mArgs ms ρ).bnd fun ps ρ1 => Res.of (pvZip ps) ρ1
theorem item_pair {K : PySem.W.Frag} {F F2 H2 H3 : Hp} {xs ys : List PV} {vs ws : List V} {i : Nat} {p : PV} {v : V} (r1 : Reps K F xs vs) (r2 : Reps K F ys ws) (s1 : Same F F2) (s2 : Same F2 H2) (e : (List.zipWith pairP xs ys)[i]? = some p)
    (y : YPair (fun i => vs[i]?) (fun i => ws[i]?) i H2 v H3) : ItemAt K F2 H2 p v H3 := by
  obtain ⟨T, x, z, rfl, hT, rfl, hx, hz⟩ := y
  rw [List.getElem?_zipWith] at e
  cases e1 : xs[i]? with
  | none => rw [e1] at e; cases e
  | some a =>
    cases e2 : ys[i]? with
    | none => rw [e1, e2] at e; cases e
    | some c =>
      rw [e1, e2] at e
      cases e
      obtain ⟨v1, h1, h2⟩ := r1.get e1
      obtain ⟨v2, h3, h4⟩ := r2.get e2
      rw [show vs[i]? = some x from hx] at h1
      rw [show ws[i]? = some z from hz] at h3
      cases h1
      cases h3
      have sT : Same F2 (L2.upd F2 T (.tup [x, z])) := Same.upd (s2.free hT)
      refine .inr (.inl ⟨T, _, hT, rfl, ?_⟩)
      unfold pairP Rep
      exact ⟨T, _, rfl, upd_same, Reps.cons (Rep.mono sT _ _ (Rep.mono s1 _ _ h2)) (Reps.cons (Rep.mono sT _ _ (Rep.mono s1 _ _ h4)) Reps.nil)⟩
theorem walk_zipT {K : PySem.W.Frag} {a b : Addr} {xs ys : List V} {n : Nat} (hn : n = min xs.length ys.length) : Walk (RZ.ItzT K a b) n (fun H => SqT K H a xs ∧ SqT K H b ys) (YPair (fun i => xs[i]?) (fun i => ys[i]?)) := by
  subst hn
  refine ⟨fun i _ hi q => ?_, fun _ q => ⟨xs, ys, q.1, q.2, by omega⟩, fun i H v H' _ q y => ?_⟩
  · have h1 : i < xs.length := by omega
    have h2 : i < ys.length := by omega
    exact ⟨xs, ys, xs[i], ys[i], q.1, q.2, by simp [h1], by simp [h2]⟩
  · obtain ⟨T, x, z, h1, h2, h3, h4, h5⟩ := y
    exact ⟨T, x, z, h1, h2, h3, h4 xs q.1, h5 ys q.2⟩
theorem i_zip {p tpos : Pos} {e e2 : Expr} {m m' : M} {elts : List Expr} {kk : Nat} (hg : Gl X "zip") (hm : X.mg "zip" = none) (ha : SndE X W e m) (hb : SndE X W e2 m') (hs : starEach [e, e2] X.env = (false, eval e X.env) :: starEach [e2] X.env := by rfl) (hs2 : starEach [e2] X.env = [(false, eval e2 X.env)] := by rfl)
    (hpl : (backTo pos (starEach [e2] X.env)).any (·.1) = false := by rfl) : SndI X W (.Tuple elts kk tpos) (.Call (.Name "zip" p) [e, e2] [] pos) (mZip [m, m']) := fun F ρ σ H R g hp => by
  refine wi_of (RZ.pi_zipA hg hm pa_wa hs hpl) ?_
  refine (sa_cons ha (sa_cons hb sa_nil hs2) hs).thenL g hp fun F1 ρ1 H1 ps vs st g1 rp len hp1 => ?_
  obtain ⟨z, ez⟩ := hp1.some
  rw [ez] at hp1
  unfold pvZip at ez
  split at ez
  · rename_i xs ys
    cases ez
    obtain ⟨v, w, rfl, r, r'⟩ := rp.two
    unfold Rep at r r'
    obtain ⟨a, us, rfl, h1, h2⟩ := r
    obtain ⟨b1, ws, rfl, h3, h4⟩ := r'
    refine ⟨a, b1, us, ws, rfl, .inl ⟨SqL.of (g1.sub _ _ h1), SqL.of (g1.sub _ _ h3), hp1 F1 H1 _ Stp.refl g1 ⟨?_⟩⟩⟩
    exact ⟨_, _, walk_zip (xs := us) (ys := ws) (by rw [List.length_zipWith, h2.length, h4.length]), fun H2 s => ⟨SqL.of (s _ _ h1), SqL.of (s _ _ h3)⟩, fun i p F2 H2 x H3 e s1 s2 y => item_pair h2 h4 s1 s2 e y⟩
  · rename_i xs ys
    cases ez
    obtain ⟨v, w, rfl, r, r'⟩ := rp.two
    unfold Rep at r r'
    obtain ⟨a, us, rfl, h1, h2⟩ := r
    obtain ⟨b1, ws, rfl, h3, h4⟩ := r'
    refine ⟨a, b1, us, ws, rfl, .inr ⟨SqT.of (g1.sub _ _ h1), SqT.of (g1.sub _ _ h3), hp1 F1 H1 _ Stp.refl g1 ⟨?_⟩⟩⟩
    exact ⟨_, _, walk_zipT (xs := us) (ys := ws) (by rw [List.length_zipWith, h2.length, h4.length]), fun H2 s => ⟨SqT.of (s _ _ h1), SqT.of (s _ _ h3)⟩, fun i p F2 H2 x H3 e s1 s2 y => item_pair h2 h4 s1 s2 e y⟩
  · cases ez
/-! a, b = [..], y and a, b, c = x, y, z -/
def mParF (i j : Nat) (mf : MF) (m : M) : MS := fun ρ => (mf ρ).sr fun xs ρ1 => (m ρ1).sr fun q ρ2 => .nx ((ρ2.set i (.own xs)).set j (.val q))
theorem st_parF {i j : Nat} {x y : Str} {a c' : Expr} {mf : MF} {m' : M} {px py pt : Pos} {kt k2 pt2} (c : Ctx X W) (hi : X.N[i]? = some x) (hj : X.N[j]? = some y) (hij : i ≠ j)
    (hx : X.env.scope.names.lookup x = some .local) (hy : X.env.scope.names.lookup y = some .local) (ha : SndF X W a mf) (hc : SndE X W c' m') (hbi : b = none ∨ i ≠ 0) (hbj : b = none ∨ j ≠ 0)
    (hw : swappedStores [.Tuple [.Name x px, .Name y py] kt pt] (.Tuple [a, c'] k2 pt2) X.env = pure (some [x, y]))
    (hs : swapsWithSole [.Tuple [.Name x px, .Name y py] kt pt] (.Tuple [a, c'] k2 pt2) pos.line X.env = pure false := by rfl)
    (hs1 : starEach [a, c'] X.env = (false, eval a X.env) :: starEach [c'] X.env := by rfl) (hs2 : starEach [c'] X.env = (false, eval c' X.env) :: starEach [] X.env := by rfl) :
    SndS X W b (.Assign [.Tuple [.Name x px, .Name y py] kt pt] (.Tuple [a, c'] k2 pt2) pos) (mParF i j mf m') := fun H0 F0 F ρ σ H D f g hp => by
  refine ws_of (ps_par c.calm c.nd hi hj hij hx hy (pa_cons pe_we (pa_cons pe_we pa_nil hs2) hs1) hw hs) ?_
  refine ha F ρ σ H _ g (Post.sr f hp fun F1 ρ1 H1 xs v st1 f1 g1 r hp1 => ?_)
  obtain ⟨a1, vs, rfl, hn, fa, no, ha1, rv⟩ := r
  refine hc F1 ρ1 σ H1 _ g1 (Post.sr f1 hp1 fun F2 ρ2 H2 q w st2 f2 g2 rq hp2 => ?_)
  have h2 : H2 a1 = some (.lst vs) := st2.kp a1 _ ha1 no
  have f2a : F2 a1 = none := st2.nf a1 _ ha1 fa no
  exact ⟨_, w, rfl, hp2 F2 _ H2 ((f2.setOwn hbi (f.ex a1 hn)).setVal hbj) ((g2.setOwn f2a (no.sub st2.os) h2 (Reps.mono st2.ff _ _ rv)).setVal rq)⟩
def mPar3 (i j l : Nat) (ms : List M) : MS := fun ρ => (mArgs ms ρ).sr fun ps ρ1 => match ps with
  | [p, q, r] => .nx (((ρ1.set i (.val p)).set j (.val q)).set l (.val r))
  | _ => .bad
theorem st_par3 {i j l : Nat} {x y z : Str} {a c' d' : Expr} {m m' m'' : M} {px py pz pt : Pos} {kt k2 pt2} (c : Ctx X W) (hi : X.N[i]? = some x) (hj : X.N[j]? = some y) (hl : X.N[l]? = some z) (hij : i ≠ j) (hil : i ≠ l) (hjl : j ≠ l)
    (hx : X.env.scope.names.lookup x = some .local) (hy : X.env.scope.names.lookup y = some .local) (hz : X.env.scope.names.lookup z = some .local) (ha : SndA X W [a, c', d'] (mArgs [m, m', m''])) (hbi : b = none ∨ i ≠ 0) (hbj : b = none ∨ j ≠ 0) (hbl : b = none ∨ l ≠ 0)
    (hw : swappedStores [.Tuple [.Name x px, .Name y py, .Name z pz] kt pt] (.Tuple [a, c', d'] k2 pt2) X.env = pure (some [x, y, z]))
    (hs : swapsWithSole [.Tuple [.Name x px, .Name y py, .Name z pz] kt pt] (.Tuple [a, c', d'] k2 pt2) pos.line X.env = pure false := by rfl) :
    SndS X W b (.Assign [.Tuple [.Name x px, .Name y py, .Name z pz] kt pt] (.Tuple [a, c', d'] k2 pt2) pos) (mPar3 i j l [m, m', m'']) := fun H0 F0 F ρ σ H D f g hp => by
  refine ws_of (ps_par3 c.calm c.nd hi hj hl hij hil hjl hx hy hz pa_wa hw hs) ?_
  refine ha F ρ σ H _ g (Post.sr f hp fun F1 ρ1 H1 ps vs _ f1 g1 r hp1 => ?_)
  split at hp1
  · rename_i p q t
    replace r : Reps X.K F1 [p, q, t] vs := r
    obtain ⟨v, us, rfl, r1, r'⟩ := r.inv
    obtain ⟨w, u, rfl, r2, r3⟩ := r'.two
    exact ⟨v, w, u, rfl, hp1 F1 _ H1 (((f1.setVal hbi).setVal hbj).setVal hbl) (((g1.setVal r1).setVal r2).setVal r3)⟩
  · exact hp1.elim
/-! name //= e -/
def ipC (C : Int → Int → Prop) (h : Int → Int → Int) : TIp := fun x y H Q => ∃ i j, x = .int i ∧ y = .int j ∧ C i j ∧ Q (.int (h i j)) H
theorem ip_fdiv : PIp X .FloorDiv (ipC CDivW fun i j => i / j) := by
  intro pins s σ H x y v u Q I r1 r2 h
  obtain ⟨i, j, e1, e2, hc, q⟩ := h
  subst e1; subst e2
  obtain ⟨t, rfl⟩ := r1
  obtain ⟨t', rfl⟩ := r2
  have h1 : (0 : Int) < j := hc.1
  exact PyProof.Rows.ifloordiv_int (by omega) (by rw [Int.fdiv_eq_ediv_of_nonneg i (by omega)]; exact ⟨.int _, H, I.tok _, ⟨_, rfl⟩, q⟩) (.inl (PyProof.noPylong_of_log2 hc.2))
theorem st_augDiv {i : Nat} {x : Str} {e : Expr} {m : M} {pos' : Pos} (c : Ctx X W) (hi : X.N[i]? = some x) (hx : Loc X.env.scope x) (he : SndE X W e m) (hb : b = none ∨ i ≠ 0) (hf : X.fn x = true ∨ X.env.scope.names.lookup x = some .local := by first | exact .inl rfl | exact .inr rfl | assumption) :
    SndS X W b (.AugAssign (.Name x pos') .FloorDiv e pos) (mAug i pvDiv m) := fun H0 F0 F ρ σ H D f g hp => by
  refine ws_of (ps_aug c.nd hi hx pe_we ip_fdiv hf) ?_
  unfold mAug at hp
  split at hp
  · rename_i q eq
    obtain ⟨v, ev, rv⟩ := g.val i q eq
    refine ⟨v, ev, ?_⟩
    refine he F ρ σ H _ g (Post.sr f hp fun F1 ρ1 H1 p w st f1 g1 r hp1 => ?_)
    cases ez : pvDiv q p with
    | none => rw [ez] at hp1; exact hp1.elim
    | some z =>
      rw [ez] at hp1
      unfold pvDiv at ez
      split at ez
      · split at ez
        · rename_i i1 j1 hc
          cases ez
          unfold Rep at rv
          replace r : Rep X.K F1 (.int j1) w := r
          unfold Rep at r
          exact ⟨i1, j1, rv, r, cdiv_of hc, hp1 F1 _ H1 (f1.setVal hb) (g1.setVal Rep.int)⟩
        · cases ez
      · cases ez
  · exact hp.elim
/-- a def of no use: nothing is promised -/
theorem fn_bad {P : Program} {w : World} {K : PySem.W.Frag} {mg : Str → Option Value} {base : Heap} {k n : Nat} {f : Addr} {fd : FuncData} {ps : List Str} (hn : ps.length = n) : FnG P w K mg base (L2.CX P w) k f fd ps (spP K mg n fun _ => .bad) :=
  ⟨fun vs H Q E h => by rw [hn]; exact h.1, fun A outer s H args us vs Q E hr _ he hb hv hs => by obtain ⟨_, _, _, _, _, h⟩ := hs; exact h.elim⟩
end
end Ev

set_option Elab.async false
set_option linter.all false
set_option maxRecDepth 100000
set_option maxHeartbeats 1000000
/-! zip(.., strict=True), at the level of the machine -/
namespace EvZ
open PySem
abbrev ZipS (h : Heap) (z TI TO : Addr) (f0 : Value) : Prop := h.get? z = some { cls := .type "zip", dict := none, data := .fields #[f0, .bool false, .bool true, .ref TI, .ref TO], slots := #[] }
section
variable {prog : Program} {w : World} {A : Around} {E : Value → Shared → Prop} {s : Shared} {z TI TO i1 i2 : Addr} {fp1 fp2 : List Addr} {n1 n2 i : Nat} {P1 P2 : Nat → Value → Prop} {St1 St2 : Nat → Heap → Prop} {a1 a2 : Value}
theorem orEnd_item {Q : Option Value → Shared → Prop} (D : Draws prog w A i1 fp1 n1 P1 St1) (hi : i < n1) (st : St1 i s.heap)
    (hQ : ∀ x h' tk, P1 i x → St1 (i + 1) h' → Heap.SameBut i1 s.heap h' → Q (some x) { s with heap := h', toks := tk }) : wpAny (model prog w) A (Builtin.SmallTypes.nextOrEnd (.ref i1)) Q E s := by
  unfold Builtin.SmallTypes.nextOrEnd
  exact wpAny_bind (wpAny_attempt (D.item i _ _ _ hi st fun x h' tk px sx hb => wpAny_pure (hQ x h' tk px sx hb)))
theorem orEnd_done {Q : Option Value → Shared → Prop} (D : Draws prog w A i1 fp1 n1 P1 St1) (st : St1 n1 s.heap)
    (hQ : ∀ h', Heap.ExtBut i1 s.heap h' → Q none { s with heap := h' }) : wpAny (model prog w) A (Builtin.SmallTypes.nextOrEnd (.ref i1)) Q E s := by
  unfold Builtin.SmallTypes.nextOrEnd
  refine wpAny_bind (wpAny_attempt (D.done _ _ _ st fun h' e hb he => ?_))
  obtain ⟨o, ho, hc⟩ := he
  show wpAny _ _ (isInstance (.ref e) (.type "StopIteration") >>= _) _ _ _
  exact wpAny_bind (wpAny_isInstance (T := "StopIteration") (b := true) ⟨o, ho, hc⟩ isSubtype_stop (wpAny_pure (hQ h' hb)))
theorem stop_raised {α : Type} {Q : α → Shared → Prop} (hh : A.handled = none) (hE : ∀ h' e, (∀ b o, s.heap.get? b = some o → h'.get? b = some o) → (∃ o, h'.get? e = some o ∧ o.cls = .type "StopIteration") → E (.ref e) { s with heap := h' }) :
    wpAny (model prog w) A (Builtin.SmallTypes.stopIteration : Sem α) Q E s := by
  unfold Builtin.SmallTypes.stopIteration
  refine wpAny_bind ?_
  simp only [newExc, newTuple]
  refine wpAny_bind (wpAny_newObj_type ?_ (by size_fits))
  refine wpAny_bind (m := firstArgMember _ _) (wpAny_of_eq (a := Value.none) (by first | rfl | (simp only [firstArgMember]; rfl)) ?_)
  refine wpAny_newObj_type ?_ (by size_fits)
  simp only [raiseNew]
  refine wpAny_bind (wpAny_handled ?_)
  first | rw [show A.in1.handled = none from hh] | rw [hh]
  refine wpAny_bind (wpAny_pure (wpAny_throw ?_))
  exact hE _ _ (fun b o e => Heap.get?_push_of_some _ (Heap.get?_push_of_some _ e)) ⟨_, Heap.get?_push_size _ rfl, rfl⟩
theorem nextS_item {Q : Value → Shared → Prop} (S : ZipSep2 z TI TO i1 i2 fp1 fp2) (D1 : Draws prog w A i1 fp1 n1 P1 St1) (D2 : Draws prog w A i2 fp2 n2 P2 St2)
    (hz : ZipS s.heap z TI TO .none) (hTI : IsTupOf2 s.heap TI (.ref i1) (.ref i2)) (hTO : IsTupOf2 s.heap TO a1 a2) (st1 : St1 i s.heap) (st2 : St2 i s.heap) (lt1 : i < n1) (lt2 : i < n2)
    (hQ : ∀ x1 x2 h' tk, P1 i x1 → P2 i x2 → ZipS h' z TI TO (rawInt s.heap.objs.size) → IsTupOf2 h' TO x1 x2 → St1 (i + 1) h' → St2 (i + 1) h' → IsTupOf2 h' s.heap.objs.size x1 x2 → h'.objs.size = s.heap.objs.size + 1 →
      (∀ c o, c ≠ z → c ≠ TO → c ≠ i1 → c ≠ i2 → s.heap.get? c = some o → h'.get? c = some o) → Q (.ref s.heap.objs.size) { s with heap := h', toks := tk }) :
    wpAny (model prog w) A (Builtin.«zip.__next__» ⟨[.ref z], []⟩) (fun fin s' => ∃ v, fin = .done (.ret v) ∧ Q v s') E s := by
  obtain ⟨hp, g, d, tk0, os⟩ := s
  show wpAny _ _ (field (.ref z) 2 >>= _) _ _ _
  refine wpAny_bind (wpAny_field hz rfl (x := .bool true) rfl ?_)
  show wpAny _ _ (field (.ref z) 3 >>= _) _ _ _
  refine wpAny_bind (wpAny_field hz rfl (x := .ref TI) rfl (wpAny_bind (wpAny_seqItems hTI rfl ?_)))
  show wpAny _ _ (Builtin.SmallTypes.ownedTupleIsFree (.ref z) >>= _) _ _ _
  refine wpAny_bind ?_
  unfold Builtin.SmallTypes.ownedTupleIsFree
  refine wpAny_bind (wpAny_field hz rfl (x := .none) rfl (wpAny_pure ?_))
  simp only [if_true]
  refine wpAny_bind (wpAny_rule (wpAny_bind (wpAny_field hz rfl (x := .ref TO) rfl ?_)))
  refine wpAny_bind (wpAny_setField_rec hz (by simp) fun k0 zz0 sb0 => ?_)
  replace zz0 : ZipS k0 z TI TO .ellipsis := zz0
  replace sb0 : Heap.SameBut z hp k0 := sb0
  refine wpAny_bind ?_
  simp only [List.zipIdx_cons, List.zipIdx_nil, List.forIn_cons, List.forIn_nil]
  refine wpAny_bind (wpAny_bind (wpAny_onRaise ?_))
  show wpAny _ _ (Builtin.SmallTypes.nextOrEnd (.ref i1)) _ _ ⟨k0, g, d, tk0, os⟩
  refine orEnd_item D1 lt1 (D1.over st1 sb0 S.zf1) fun x1 p1 tk1 hx1 sn1 pb1 => ?_
  replace pb1 : Heap.SameBut i1 k0 p1 := pb1
  have u1 : IsTupOf2 p1 TO a1 a2 := pb1.extBut _ _ S.Ti1 (sb0.extBut _ _ S.TOz hTO)
  refine wpAny_bind (wpAny_seqItems (s := ⟨p1, g, d, tk1, os⟩) u1 rfl (wpAny_bind (updateSeq_IsTupOf2 (s := ⟨p1, g, d, tk1, os⟩) u1 fun k1 tt1 sb1 => ?_)))
  replace tt1 : IsTupOf2 k1 TO x1 a2 := tt1
  replace sb1 : Heap.SameBut TO p1 k1 := sb1
  refine wpAny_bind (wpAny_letGo (wpAny_pure (wpAny_bind (wpAny_bind (wpAny_onRaise ?_)))))
  show wpAny _ _ (Builtin.SmallTypes.nextOrEnd (.ref i2)) _ _ ⟨k1, g, d, tk1, os⟩
  refine orEnd_item D2 lt2 (D2.over (D2.over (D2.over st2 sb0 S.zf2) pb1 S.sep1_2) sb1 S.Tf2) fun x2 p2 tk2 hx2 sn2 pb2 => ?_
  replace pb2 : Heap.SameBut i2 k1 p2 := pb2
  have u2 : IsTupOf2 p2 TO x1 a2 := pb2.extBut _ _ S.Ti2 tt1
  refine wpAny_bind (wpAny_seqItems (s := ⟨p2, g, d, tk2, os⟩) u2 rfl (wpAny_bind (updateSeq_IsTupOf2 (s := ⟨p2, g, d, tk2, os⟩) u2 fun k2 tt2 sb2 => ?_)))
  replace tt2 : IsTupOf2 k2 TO x1 x2 := tt2
  replace sb2 : Heap.SameBut TO p2 k2 := sb2
  refine wpAny_bind (wpAny_letGo (wpAny_pure (wpAny_pure (wpAny_bind (wpAny_seqItems (s := ⟨k2, g, d, tk2, os⟩) tt2 rfl (wpAny_bind (wpAny_newTuple ?_)))))))
  have sz2 : k2.objs.size = hp.objs.size := by rw [sb2.1, pb2.1, sb1.1, pb1.1, sb0.1]
  have zz2 : ZipS k2 z TI TO .ellipsis := sb2.extBut _ _ S.TOz.symm (pb2.extBut _ _ S.zi2 (sb1.extBut _ _ S.TOz.symm (pb1.extBut _ _ S.zi1 zz0)))
  have kp2 : ∀ c o, c ≠ z → c ≠ TO → c ≠ i1 → c ≠ i2 → hp.get? c = some o → k2.get? c = some o := fun c o cz cT c1 c2 e =>
    sb2.extBut _ _ cT (pb2.extBut _ _ c2 (sb1.extBut _ _ cT (pb1.extBut _ _ c1 (sb0.extBut _ _ cz e))))
  have j1 : St1 (i + 1) k2 := D1.over (D1.over (D1.over sn1 sb1 S.Tf1) pb2 S.sep2_1) sb2 S.Tf1
  have j2 : St2 (i + 1) k2 := D2.over sn2 sb2 S.Tf2
  have zlt : z < k2.objs.size := Heap.lt_size zz2
  show wpAny _ _ (Builtin.SmallTypes.ownedTupleHandOut (.ref z) (.ref k2.objs.size) >>= _) _ _ ⟨k2.push { cls := .type "tuple", data := .seq #[x1, x2] }, g, d, tk2, os⟩
  refine wpAny_bind ?_
  unfold Builtin.SmallTypes.ownedTupleHandOut
  have zz3 : ZipS (k2.push { cls := .type "tuple", data := .seq #[x1, x2] }) z TI TO .ellipsis := Heap.get?_push_of_some _ zz2
  refine wpAny_bind (wpAny_setField_rec zz3 (by simp) fun k4 zz4 sb4 => ?_)
  replace zz4 : ZipS k4 z TI TO (rawInt k2.objs.size) := zz4
  refine wpAny_setField_rec zz4 (by simp) fun k5 zz5 sb5 => ?_
  replace zz5 : ZipS k5 z TI TO (rawInt k2.objs.size) := zz5
  replace sb4 : Heap.SameBut z (k2.push { cls := .type "tuple", data := .seq #[x1, x2] }) k4 := sb4
  replace sb5 : Heap.SameBut z k4 k5 := sb5
  have up : ∀ c o, c ≠ z → k2.get? c = some o → k5.get? c = some o := fun c o c1 e => sb5.extBut _ _ c1 (sb4.extBut _ _ c1 (Heap.get?_push_of_some _ e))
  have tt5 : IsTupOf2 k5 k2.objs.size x1 x2 := sb5.extBut _ _ (Nat.ne_of_gt zlt) (sb4.extBut _ _ (Nat.ne_of_gt zlt) (Heap.get?_push_size _ rfl))
  have sz5 : k5.objs.size = k2.objs.size + 1 := by rw [sb5.1, sb4.1, Heap.size_push]
  rw [sz2] at zz5 tt5 sz5
  refine wpAny_pure ⟨_, rfl, ?_⟩
  show Q (.ref k2.objs.size) ⟨k5, g, d, tk2, os⟩
  rw [sz2]
  exact hQ x1 x2 k5 tk2 hx1 hx2 zz5 (up _ _ S.TOz tt2) (D1.frame _ _ _ j1 fun b hb o e => up b o (fun q => S.zf1 (q ▸ hb)) e) (D2.frame _ _ _ j2 fun b hb o e => up b o (fun q => S.zf2 (q ▸ hb)) e) tt5 sz5 fun c o cz cT c1 c2 e => up c o cz (kp2 c o cz cT c1 c2 e)
theorem nextS_end {Q : Fin → Shared → Prop} (hh : A.handled = none) (S : ZipSep2 z TI TO i1 i2 fp1 fp2) (D1 : Draws prog w A i1 fp1 i P1 St1) (D2 : Draws prog w A i2 fp2 i P2 St2)
    (hz : ZipS s.heap z TI TO .none) (hTI : IsTupOf2 s.heap TI (.ref i1) (.ref i2)) (hTO : IsTupOf2 s.heap TO a1 a2) (st1 : St1 i s.heap) (st2 : St2 i s.heap)
    (hE : ∀ h' e, (∀ c o, c ≠ z → c ≠ TO → c ≠ i1 → c ≠ i2 → s.heap.get? c = some o → h'.get? c = some o) → (∃ o, h'.get? e = some o ∧ o.cls = .type "StopIteration") → E (.ref e) { s with heap := h' }) :
    wpAny (model prog w) A (Builtin.«zip.__next__» ⟨[.ref z], []⟩) Q E s := by
  obtain ⟨hp, g, d, tk0, os⟩ := s
  show wpAny _ _ (field (.ref z) 2 >>= _) _ _ _
  refine wpAny_bind (wpAny_field hz rfl (x := .bool true) rfl ?_)
  show wpAny _ _ (field (.ref z) 3 >>= _) _ _ _
  refine wpAny_bind (wpAny_field hz rfl (x := .ref TI) rfl (wpAny_bind (wpAny_seqItems hTI rfl ?_)))
  show wpAny _ _ (Builtin.SmallTypes.ownedTupleIsFree (.ref z) >>= _) _ _ _
  refine wpAny_bind ?_
  unfold Builtin.SmallTypes.ownedTupleIsFree
  refine wpAny_bind (wpAny_field hz rfl (x := .none) rfl (wpAny_pure ?_))
  simp only [if_true]
  refine wpAny_bind (wpAny_rule (wpAny_bind (wpAny_field hz rfl (x := .ref TO) rfl ?_)))
  refine wpAny_bind (wpAny_setField_rec hz (by simp) fun k0 zz0 sb0 => ?_)
  replace zz0 : ZipS k0 z TI TO .ellipsis := zz0
  replace sb0 : Heap.SameBut z hp k0 := sb0
  refine wpAny_bind ?_
  simp only [List.zipIdx_cons, List.zipIdx_nil, List.forIn_cons, List.forIn_nil]
  refine wpAny_bind (wpAny_bind (wpAny_onRaise ?_))
  show wpAny _ _ (Builtin.SmallTypes.nextOrEnd (.ref i1)) _ _ ⟨k0, g, d, tk0, os⟩
  refine orEnd_done D1 (D1.over st1 sb0 S.zf1) fun p1 pb1 => ?_
  replace pb1 : Heap.ExtBut i1 k0 p1 := pb1
  have zz1 : ZipS p1 z TI TO .ellipsis := pb1 _ _ S.zi1 zz0
  refine wpAny_bind (wpAny_setField_rec (s := ⟨p1, g, d, tk0, os⟩) zz1 (by simp) fun k1 zz2 sb1 => ?_)
  replace sb1 : Heap.SameBut z p1 k1 := sb1
  refine wpAny_bind ?_
  show wpAny _ _ ((forIn (m := Sem) ([(Value.ref i2, 1)] : List (Value × Nat)) PUnit.unit _) >>= _) _ _ _
  refine wpAny_bind ?_
  simp only [List.forIn_cons, List.forIn_nil]
  refine wpAny_bind (wpAny_bind ?_)
  have t2 : St2 i k1 := D2.over (D2.frame _ _ _ (D2.over st2 sb0 S.zf2) fun b hb o e => pb1 b o (fun q => S.sep1_2 (q ▸ hb)) e) sb1 S.zf2
  refine orEnd_done (s := ⟨k1, g, d, tk0, os⟩) D2 t2 fun k3 pb3 => ?_
  replace pb3 : Heap.ExtBut i2 k1 k3 := pb3
  show wpAny _ _ (pure _) _ _ _
  refine wpAny_pure (wpAny_pure (wpAny_bind (wpAny_rule ?_)))
  refine stop_raised (s := ⟨k3, g, d, tk0, os⟩) hh fun k4 e kk he => ?_
  exact hE k4 e (fun c o cz cT c1 c2 q => kk c o (pb3 c o c2 (sb1.extBut _ _ cz (pb1 c o c1 (sb0.extBut _ _ cz q))))) he
theorem pyNextS_item {Q : Option Value → Shared → Prop} (S : ZipSep2 z TI TO i1 i2 fp1 fp2) (D1 : Draws prog w A.in1 i1 fp1 n1 P1 St1) (D2 : Draws prog w A.in1 i2 fp2 n2 P2 St2)
    (hz : ZipS s.heap z TI TO .none) (hTI : IsTupOf2 s.heap TI (.ref i1) (.ref i2)) (hTO : IsTupOf2 s.heap TO a1 a2) (st1 : St1 i s.heap) (st2 : St2 i s.heap) (lt1 : i < n1) (lt2 : i < n2)
    (hQ : ∀ x1 x2 h' tk, P1 i x1 → P2 i x2 → ZipS h' z TI TO (rawInt s.heap.objs.size) → IsTupOf2 h' TO x1 x2 → St1 (i + 1) h' → St2 (i + 1) h' → IsTupOf2 h' s.heap.objs.size x1 x2 → h'.objs.size = s.heap.objs.size + 1 →
      (∀ c o, c ≠ z → c ≠ TO → c ≠ i1 → c ≠ i2 → s.heap.get? c = some o → h'.get? c = some o) → Q (some (.ref s.heap.objs.size)) { s with heap := h', toks := tk }) :
    wpAny (model prog w) A (pyNext (.ref z)) Q E s := by
  have ty : s.TypeIs (.ref z) "zip" := ⟨_, hz, rfl⟩
  unfold pyNext
  exact wpAny_bind (wpAny_attempt (wpAny_callSpecial?_slot (name := Str.ofString "__next__") ty F.slot_zip_next (wpAny_call_entry F.slot_zip_next ty F.entry_zip_next
      (nextS_item S D1 D2 hz hTI hTO st1 st2 lt1 lt2 fun x1 x2 h' tk y1 y2 b1 b2 d1 d2 b5 b6 b7 => wpAny_pure (hQ x1 x2 h' tk y1 y2 b1 b2 d1 d2 b5 b6 b7)) (F.args_zip_next_1 _))))
theorem pyNextS_end {Q : Option Value → Shared → Prop} (hh : A.in1.handled = none) (S : ZipSep2 z TI TO i1 i2 fp1 fp2) (D1 : Draws prog w A.in1 i1 fp1 i P1 St1) (D2 : Draws prog w A.in1 i2 fp2 i P2 St2)
    (hz : ZipS s.heap z TI TO .none) (hTI : IsTupOf2 s.heap TI (.ref i1) (.ref i2)) (hTO : IsTupOf2 s.heap TO a1 a2) (st1 : St1 i s.heap) (st2 : St2 i s.heap)
    (hQ : ∀ h', (∀ c o, c ≠ z → c ≠ TO → c ≠ i1 → c ≠ i2 → s.heap.get? c = some o → h'.get? c = some o) → Q none { s with heap := h' }) : wpAny (model prog w) A (pyNext (.ref z)) Q E s := by
  have ty : s.TypeIs (.ref z) "zip" := ⟨_, hz, rfl⟩
  unfold pyNext
  refine wpAny_bind (wpAny_attempt (wpAny_callSpecial?_slot (name := Str.ofString "__next__") ty F.slot_zip_next (wpAny_call_entry F.slot_zip_next ty F.entry_zip_next
    (nextS_end hh S D1 D2 hz hTI hTO st1 st2 fun h' e hk he => ?_) (F.args_zip_next_1 _))))
  obtain ⟨o, ho, hc⟩ := he
  exact wpAny_bind (wpAny_isInstance (T := "StopIteration") (b := true) ⟨o, ho, hc⟩ isSubtype_stop (wpAny_pure (hQ _ hk)))
theorem letGoS {elts : List Expr} {x1} {pos : Pos} {T : Addr} {Q : Unit → Shared → Prop} (hz : ZipS s.heap z TI TO (rawInt T))
    (hQ : ∀ h', ZipS h' z TI TO .none → Heap.SameBut z s.heap h' → Q () { s with heap := h' }) : wpAny (model prog w) A (letOwnedTupleGo (.Tuple elts x1 pos) (.ref z) (.ref T)) Q E s := by
  unfold letOwnedTupleGo
  refine wpAny_bind (wpAny_load hz ?_)
  show wpAny _ _ (if (_ && (#[rawInt T, .bool false, .bool true, .ref TI, .ref TO] : Array Value)[0]? == some (rawInt T)) = true then _ else _) Q E s
  rw [if_pos (by simp)]
  refine wpAny_bind (wpAny_rule ?_)
  exact wpAny_setField_rec hz (by simp) fun h' hz' hs' => hQ h' hz' hs'
theorem iterS {f0 : Value} {Q : Value → Shared → Prop} (hz : ZipS s.heap z TI TO f0) (h : Q (.ref z) s) : wpAny (model prog w) A (pyIter (.ref z)) Q E s := by
  have ty : s.TypeIs (.ref z) "zip" := ⟨_, hz, rfl⟩
  refine wpAny_pyIter_slot ty F.slot_zip_iter (wpAny_call_entry F.slot_zip_iter ty F.entry_zip_iter ?_ (F.args_zip_iter_1 _))
  exact wpAny_pure ⟨_, rfl, "zip", _, ty, F.slot_zip_next.lookup, h⟩
end
/-! zip(a, b, strict=True) begins -/
theorem tcall (a b v : Value) : checkTypeCall "zip" ⟨[a, b], [(Str.ofString "strict", v)]⟩ = pure () := by kernel_rfl
theorem ncall (a b v : Value) : checkBuiltinCall "zip.__new__" ⟨[.type "zip", a, b], [(Str.ofString "strict", v)]⟩ = pure () := by kernel_rfl
theorem icall (obj a b v : Value) : argsOk "object.__init__" ⟨[obj, a, b], [(Str.ofString "strict", v)]⟩ := by unfold argsOk; kernel_rfl
abbrev hT (h : Heap) (o1 o2 : Obj) : Heap := ((h.push o1).push o2).push { cls := .type "tuple", data := .seq #[.ref h.objs.size, .ref (h.push o1).objs.size] }
abbrev hO (h : Heap) (o1 o2 : Obj) : Heap := (hT h o1 o2).push { cls := .type "tuple", data := .seq #[.none, .none] }
abbrev hZ (h : Heap) (o1 o2 : Obj) : Heap := (hO h o1 o2).push { cls := .type "zip", data := .fields #[.none, .bool false, .bool true, .ref ((h.push o1).push o2).objs.size, .ref (hT h o1 o2).objs.size] }
theorem meetsS {v1 v2 : Value} {o1 o2 : Obj} {H1 H2 : Heap → Prop} (B1 : Begins v1 o1 H1) (B2 : Begins v2 o2 H2) :
    Meets (Builtin.«zip.__new__» ⟨[.type "zip", v1, v2], [(Str.ofString "strict", .bool true)]⟩) (fun _ R s => (H1 s.heap ∧ H2 s.heap) ∧ R (.ok (.ret (.ref (hO s.heap o1 o2).objs.size))) { s with heap := hZ s.heap o1 o2 }) :=
  .of_wp fun prog w A R s h => by
    obtain ⟨hp, g, d, tk, os⟩ := s; obtain ⟨⟨h1, h2⟩, h⟩ := h
    have hsub := sub_zip
    have e1 : (Str.ofString "strict" != ("strict" : Str)) = false := by decide +kernel
    have q1 : ∀ {A' : Around} {E : Value → Shared → Prop} {Q : Value → Shared → Prop}, Q (.ref hp.objs.size) ⟨(hp.push o1), g, d, tk, os⟩ → wpAny (model prog w) A' (pyIter v1) Q E ⟨hp, g, d, tk, os⟩ :=
      fun q => B1.iter prog w _ _ ⟨hp, g, d, tk, os⟩ _ h1 q
    have q2 : ∀ {A' : Around} {E : Value → Shared → Prop} {Q : Value → Shared → Prop}, Q (.ref (hp.push o1).objs.size) ⟨((hp.push o1).push o2), g, d, tk, os⟩ → wpAny (model prog w) A' (pyIter v2) Q E ⟨(hp.push o1), g, d, tk, os⟩ :=
      fun q => B2.iter prog w _ _ ⟨(hp.push o1), g, d, tk, os⟩ _ (B2.keeps _ _ h2 fun b o' e => Heap.get?_push_of_some _ e) q
    wp_walk using q1, q2
    exact ⟨_, rfl, h⟩
theorem beginsS {prog : Program} {w : World} {A : Around} {E : Value → Shared → Prop} {s : Shared} {v1 v2 : Value} {o1 o2 : Obj} {H1 H2 : Heap → Prop} {Q : Value → Shared → Prop} (B1 : Begins v1 o1 H1) (B2 : Begins v2 o2 H2) (h1 : H1 s.heap) (h2 : H2 s.heap)
    (h : ∀ h', ZipS h' (s.heap.objs.size + 4) (s.heap.objs.size + 2) (s.heap.objs.size + 3) .none → IsTupOf2 h' (s.heap.objs.size + 2) (.ref s.heap.objs.size) (.ref (s.heap.objs.size + 1)) →
      IsTupOf2 h' (s.heap.objs.size + 3) .none .none → h'.get? s.heap.objs.size = some o1 → h'.get? (s.heap.objs.size + 1) = some o2 → h'.objs.size = s.heap.objs.size + 5 →
      (∀ c o, s.heap.get? c = some o → h'.get? c = some o) → Q (.ref (s.heap.objs.size + 4)) { s with heap := h' }) :
    wpAny (model prog w) A (call (.type "zip") [v1, v2] [(Str.ofString "strict", .bool true)]) Q E s := by
  refine callType_newKw F.called_zip (by decide) (tcall _ _ _) (ncall _ _ _) (fun obj => icall obj _ _ _) F.entry_zip_new (meetsS B1 B2) ⟨⟨h1, h2⟩, ?_⟩
  have y1 : (s.heap.push o1).objs.size = s.heap.objs.size + 1 := by rw [Heap.size_push]
  have y2 : ((s.heap.push o1).push o2).objs.size = s.heap.objs.size + 2 := by rw [Heap.size_push, y1]
  have y3 : (hT s.heap o1 o2).objs.size = s.heap.objs.size + 3 := by rw [Heap.size_push, y2]
  have y4 : (hO s.heap o1 o2).objs.size = s.heap.objs.size + 4 := by rw [Heap.size_push, y3]
  have y5 : (hZ s.heap o1 o2).objs.size = s.heap.objs.size + 5 := by rw [Heap.size_push, y4]
  have pz : (hZ s.heap o1 o2).get? (hO s.heap o1 o2).objs.size = some { cls := .type "zip", data := .fields #[.none, .bool false, .bool true, .ref ((s.heap.push o1).push o2).objs.size, .ref (hT s.heap o1 o2).objs.size] } := Heap.get?_push_size _ rfl
  have po : (hZ s.heap o1 o2).get? (hT s.heap o1 o2).objs.size = some { cls := .type "tuple", data := .seq #[.none, .none] } := Heap.get?_push_of_some _ (Heap.get?_push_size _ rfl)
  have pt : (hZ s.heap o1 o2).get? ((s.heap.push o1).push o2).objs.size = some { cls := .type "tuple", data := .seq #[.ref s.heap.objs.size, .ref (s.heap.push o1).objs.size] } := Heap.get?_push_of_some _ (Heap.get?_push_of_some _ (Heap.get?_push_size _ rfl))
  have pa : (hZ s.heap o1 o2).get? s.heap.objs.size = some o1 := Heap.get?_push_of_some _ (Heap.get?_push_of_some _ (Heap.get?_push_of_some _ (Heap.get?_push_of_some _ (Heap.get?_push_size _ B1.free))))
  have pb : (hZ s.heap o1 o2).get? (s.heap.push o1).objs.size = some o2 := Heap.get?_push_of_some _ (Heap.get?_push_of_some _ (Heap.get?_push_of_some _ (Heap.get?_push_size _ B2.free)))
  rw [y4, y3, y2] at pz
  rw [y3] at po
  rw [y2, y1] at pt
  rw [y1] at pb
  show _ ∧ _
  rw [y4]
  exact ⟨⟨_, pz, rfl⟩, h _ pz pt po pa pb y5 fun c o e => Heap.get?_push_of_some _ (Heap.get?_push_of_some _ (Heap.get?_push_of_some _ (Heap.get?_push_of_some _ (Heap.get?_push_of_some _ e))))⟩
/-! a call of a type, with keywords -/
theorem callKwT {M : Model} {A : Around} {E : Value → Shared → Prop} {s : Shared} {env : Env} {pos : Pos} {T : String} {e : Expr} {rest : List Expr} {kws : List Keyword} {Q : Value → Shared → Prop}
    (h : wpAny M A (spliced (backTo pos (starEach (e :: rest) env))) (fun vs s1 => wpAny M A (evalAll ((backToKw pos (keywordEach kws env)).map (·.2)))
      (fun kvs s2 => wpAny M A (call (.type T) vs (((backToKw pos (keywordEach kws env)).filterMap (·.1)).zip kvs)) Q E s2) E s1) E s)
    (he : backTo pos (starEach (e :: rest) env) = (false, eval e env) :: backTo pos (starEach rest env)) (hplain : (backTo pos (starEach (e :: rest) env)).any (·.1) = false)
    (hall : (backToKw pos (keywordEach kws env)).all (·.1.isSome) = true) (hkw : (backToKw pos (keywordEach kws env)).any (·.1.isNone) = false) :
    wpAny M A (callWith pos (.type T) [] (backTo pos (starEach (e :: rest) env)) (backToKw pos (keywordEach kws env))) Q E s := by
  have h' : wpAny M A (evalArgs (.type T) true (backTo pos (starEach (e :: rest) env)) (backToKw pos (keywordEach kws env))) (fun a s1 => wpAny M A (call (.type T) a.pos a.kw) Q E s1) E s := by
    rw [he] at h ⊢
    exact PyProof.Rows.evalArgs_kwB hall h
  unfold callWith
  refine wpAny_bind (wpAny_holding (wpAny_mono h' (fun a s1 h1 => wpAny_bind (wpAny_standAt ?_)) fun _ _ x => x))
  simp only [hplain, hkw, Bool.or_false]
  exact wpAny_bind (wpAny_pure (wpAny_bind (wpAny_mono h1 (fun r s2 hr => wpAny_bind (wpAny_holding (wpAny_point (wpAny_pure hr)))) fun _ _ x => x)))
/-! enumerate(v) begins -/
theorem meetsE {v : Value} {o : Obj} {H : Heap → Prop} (B : Begins v o H) :
    Meets (Builtin.«enumerate.__new__» ⟨[.type "enumerate", v], []⟩) (fun _ R s => H s.heap ∧ R (.ok (.ret (.ref (s.heap.push o).objs.size)))
      { s with heap := (s.heap.push o).push { cls := .type "enumerate", data := .fields #[.none, .bool false, .ref s.heap.objs.size, rawInt 0, .none, .none] } }) :=
  .of_wp fun prog w A R s h => by
    obtain ⟨hp, g, d, tk, os⟩ := s; obtain ⟨h1, h⟩ := h
    have hsub := sub_enumerate
    have q1 : ∀ {A' : Around} {E : Value → Shared → Prop} {Q : Value → Shared → Prop}, Q (.ref hp.objs.size) ⟨hp.push o, g, d, tk, os⟩ → wpAny (model prog w) A' (pyIter v) Q E ⟨hp, g, d, tk, os⟩ := fun q => B.iter prog w _ _ ⟨hp, g, d, tk, os⟩ _ h1 q
    wp_walk using q1
    refine wpAny_stack_any fun st => wpAny_pure ?_
    split
    · rename_i c _ _ _ _ _
      cases (c == Value.type "enumerate") <;> (wp_walk using q1; exact ⟨_, rfl, h⟩)
    · wp_walk using q1
      exact ⟨_, rfl, h⟩
theorem beginsE {prog : Program} {w : World} {A : Around} {E : Value → Shared → Prop} {s : Shared} {v : Value} {o : Obj} {H : Heap → Prop} {Q : Value → Shared → Prop} (B : Begins v o H) (h1 : H s.heap)
    (h : ∀ h', IsEnum h' (s.heap.objs.size + 1) s.heap.objs.size 0 .none → h'.get? s.heap.objs.size = some o → h'.objs.size = s.heap.objs.size + 2 → (∀ b o, s.heap.get? b = some o → h'.get? b = some o) → Q (.ref (s.heap.objs.size + 1)) { s with heap := h' }) :
    wpAny (model prog w) A (call (.type "enumerate") [v]) Q E s := by
  refine callType_new F.called_enumerate (by decide) (F.typeCall_enumerate_1 _) (F.newCall_enumerate_1 _) (fun obj => F.args_object_init_2 obj _) F.entry_enumerate_new (meetsE B) ⟨h1, ?_⟩
  have y1 : (s.heap.push o).objs.size = s.heap.objs.size + 1 := Heap.size_push ..
  show _ ∧ _
  rw [y1]
  have he := Heap.get?_push_size (s.heap.push o) (o := { cls := .type "enumerate", data := .fields #[.none, .bool false, .ref s.heap.objs.size, rawInt 0, .none, .none] }) rfl
  rw [y1] at he
  exact ⟨⟨_, he, rfl⟩, h _ he (Heap.get?_push_of_some _ (Heap.get?_push_size _ B.free)) (by rw [Heap.size_push, y1]) fun b o x => Heap.get?_push_of_some _ (Heap.get?_push_of_some _ x)⟩
end EvZ

set_option Elab.async false
set_option linter.all false
set_option maxRecDepth 100000
set_option maxHeartbeats 1000000
/-! what is walked: zip of lists and tuples, strict or not; enumerate -/
namespace Ev
open PySem L2
/-- a tuple, a list -/
def SqB (K : PySem.W.Frag) (H : Hp) : Bool → Addr → List V → Prop
  | true, a, xs => SqT K H a xs
  | false, a, xs => SqL K H a xs
def ItB (h : Heap) : Bool → Addr → Addr → Nat → Prop
  | true, it, a, i => h.IsTupleIter it a i
  | false, it, a, i => h.IsListIter it a i
def SeB (h : Heap) : Bool → Addr → Array Value → Prop
  | true, a, its => h.IsTuple a its
  | false, a, its => h.IsList a its
def itO (t : Bool) (a : Addr) : Obj := { cls := .type (if t then "tuple_iterator" else "list_iterator"), data := .fields #[.ref a, .int 0 0] }
theorem SeB.lt {h : Heap} {t : Bool} {a : Addr} {its : Array Value} (e : SeB h t a its) : a < h.objs.size := by
  cases t with
  | true => obtain ⟨o, ho, _⟩ := e; exact Heap.lt_size ho
  | false => obtain ⟨o, ho, _⟩ := e; exact Heap.lt_size ho
theorem seB {X : Cx} {pins : List (Addr × Obj)} {σ : St} {H : Hp} {s : Shared} {t : Bool} {a : Addr} {xs : List V} (I : Inv X pins σ H s) (h : SqB X.K H t a xs) : ∃ its : List Value, Vals xs its ∧ SeB s.heap t a its.toArray := by
  cases t with
  | true => obtain ⟨its, rv, p, _⟩ := I.tuple h; exact ⟨its, rv, p⟩
  | false => obtain ⟨its, rv, p, _⟩ := I.list h; exact ⟨its, rv, p.isList⟩
theorem seB_inj {X : Cx} {pins : List (Addr × Obj)} {σ : St} {H : Hp} {s : Shared} {t : Bool} {a : Addr} {xs ys : List V} (I : Inv X pins σ H s) (h : SqB X.K H t a xs) (h' : SqB X.K H t a ys) : xs = ys := by
  cases t with
  | true => exact I.tuple_inj h h'
  | false => exact I.list_inj h h'
theorem drB {prog : Program} {w : World} {A : Around} (hh : A.handled = none) (t : Bool) (it a : Addr) (hne : a ≠ it) (its : Array Value) : Draws prog w A it [it, a] its.size (fun i v => its[i]? = some v) (fun i h => ItB h t it a i ∧ SeB h t a its) := by
  cases t with
  | true => exact Draws.tuple hh it a hne its
  | false => exact Draws.list hh it a hne its
theorem begB (t : Bool) (a : Addr) (its : Array Value) : Begins (.ref a) (itO t a) (fun h => SeB h t a its) := by
  cases t with
  | true => exact begins_tuple a its
  | false => exact begins_list a its
theorem itB_new {h : Heap} {t : Bool} {it a : Addr} (e : h.get? it = some (itO t a)) : ItB h t it a 0 := by
  cases t with
  | true => exact ⟨_, e, rfl, rfl⟩
  | false => exact ⟨_, e, rfl, rfl⟩
theorem itB_obj {h : Heap} {t : Bool} {it a : Addr} {i : Nat} (e : ItB h t it a i) : ∃ o, h.get? it = some o ∧ ∀ v, o.data ≠ .cell v := by
  cases t with
  | true => obtain ⟨o, ho, _, hd⟩ := e; exact ⟨o, ho, fun v q => by rw [hd] at q; cases q⟩
  | false => obtain ⟨o, ho, _, hd⟩ := e; exact ⟨o, ho, fun v q => by rw [hd] at q; cases q⟩
theorem itB_at {h h' : Heap} {t : Bool} {it a : Addr} {i : Nat} (e : ItB h t it a i) (k : ∀ o, h.get? it = some o → h'.get? it = some o) : ItB h' t it a i := by
  cases t with
  | true => exact Heap.IsTupleIter.at e k
  | false => exact Heap.IsListIter.at e k
abbrev ZB (b : Bool) (h : Heap) (z TI TO : Addr) (f0 : Value) : Prop := h.get? z = some { cls := .type "zip", dict := none, data := .fields #[f0, .bool false, .bool b, .ref TI, .ref TO], slots := #[] }
def ItzB (K : PySem.W.Frag) (b ta tc : Bool) (a c : Addr) : It :=
  ⟨fun i H => ∃ (xs ys : List V) (x y : V), SqB K H ta a xs ∧ SqB K H tc c ys ∧ xs[i]? = some x ∧ ys[i]? = some y,
   fun i H v H' => ∃ T x y, v = .ref T ∧ H T = none ∧ H' = upd H T (.tup [x, y]) ∧ (∀ xs, SqB K H ta a xs → xs[i]? = some x) ∧ ∀ ys, SqB K H tc c ys → ys[i]? = some y,
   fun i H => ∃ xs ys : List V, SqB K H ta a xs ∧ SqB K H tc c ys ∧ i ≤ xs.length ∧ i ≤ ys.length ∧ (i = xs.length ∨ i = ys.length) ∧ (b = true → i = xs.length ∧ i = ys.length)⟩
theorem nextB_item {prog : Program} {w : World} {A : Around} {E : Value → Shared → Prop} {s : Shared} {z TI TO i1 i2 : Addr} {fp1 fp2 : List Addr} {n1 n2 i : Nat} {P1 P2 : Nat → Value → Prop} {St1 St2 : Nat → Heap → Prop} {a1 a2 : Value}
    {Q : Option Value → Shared → Prop} (b : Bool) (S : ZipSep2 z TI TO i1 i2 fp1 fp2) (D1 : Draws prog w A.in1 i1 fp1 n1 P1 St1) (D2 : Draws prog w A.in1 i2 fp2 n2 P2 St2)
    (hz : ZB b s.heap z TI TO .none) (hTI : IsTupOf2 s.heap TI (.ref i1) (.ref i2)) (hTO : IsTupOf2 s.heap TO a1 a2) (st1 : St1 i s.heap) (st2 : St2 i s.heap) (lt1 : i < n1) (lt2 : i < n2)
    (hQ : ∀ x1 x2 h' tk, P1 i x1 → P2 i x2 → ZB b h' z TI TO (rawInt s.heap.objs.size) → IsTupOf2 h' TO x1 x2 → St1 (i + 1) h' → St2 (i + 1) h' → IsTupOf2 h' s.heap.objs.size x1 x2 → h'.objs.size = s.heap.objs.size + 1 →
      (∀ c o, c ≠ z → c ≠ TO → c ≠ i1 → c ≠ i2 → s.heap.get? c = some o → h'.get? c = some o) → Q (some (.ref s.heap.objs.size)) { s with heap := h', toks := tk }) :
    wpAny (model prog w) A (pyNext (.ref z)) Q E s := by
  cases b with
  | true => exact EvZ.pyNextS_item S D1 D2 hz hTI hTO st1 st2 lt1 lt2 hQ
  | false => exact wpAny_pyNext_zipD2_item S D1 D2 hz hTI hTO st1 st2 lt1 lt2 hQ
theorem nextB_end {prog : Program} {w : World} {A : Around} {E : Value → Shared → Prop} {s : Shared} {z TI TO i1 i2 : Addr} {fp1 fp2 : List Addr} {n1 n2 i : Nat} {P1 P2 : Nat → Value → Prop} {St1 St2 : Nat → Heap → Prop} {a1 a2 : Value}
    {Q : Option Value → Shared → Prop} (b : Bool) (hh : A.in1.handled = none) (S : ZipSep2 z TI TO i1 i2 fp1 fp2) (D1 : Draws prog w A.in1 i1 fp1 n1 P1 St1) (D2 : Draws prog w A.in1 i2 fp2 n2 P2 St2)
    (hz : ZB b s.heap z TI TO .none) (hTI : IsTupOf2 s.heap TI (.ref i1) (.ref i2)) (hTO : IsTupOf2 s.heap TO a1 a2) (st1 : St1 i s.heap) (st2 : St2 i s.heap) (l1 : i ≤ n1) (l2 : i ≤ n2) (le : i = n1 ∨ i = n2) (ls : b = true → i = n1 ∧ i = n2)
    (hQ : ∀ h' tk, (∀ c o, c ≠ z → c ≠ TO → c ≠ i1 → c ≠ i2 → s.heap.get? c = some o → h'.get? c = some o) → Q none { s with heap := h', toks := tk }) : wpAny (model prog w) A (pyNext (.ref z)) Q E s := by
  cases b with
  | true => obtain ⟨rfl, rfl⟩ := ls rfl; exact EvZ.pyNextS_end hh S D1 D2 hz hTI hTO st1 st2 fun h' k => hQ h' s.toks k
  | false => exact wpAny_pyNext_zipD2_end S D1 D2 hz hTI hTO st1 st2 l1 l2 le hQ
theorem goB {prog : Program} {w : World} {A : Around} {E : Value → Shared → Prop} {s : Shared} {z TI TO T : Addr} {elts : List Expr} {x1} {pos : Pos} {Q : Unit → Shared → Prop} (b : Bool) (hz : ZB b s.heap z TI TO (rawInt T))
    (hQ : ∀ h', ZB b h' z TI TO .none → Heap.SameBut z s.heap h' → Q () { s with heap := h' }) : wpAny (model prog w) A (letOwnedTupleGo (.Tuple elts x1 pos) (.ref z) (.ref T)) Q E s := by
  cases b with
  | true => exact EvZ.letGoS hz hQ
  | false => exact wpAny_letOwnedTupleGo_zip hz hQ
theorem iterB {prog : Program} {w : World} {A : Around} {E : Value → Shared → Prop} {s : Shared} {z TI TO : Addr} {f0 : Value} {Q : Value → Shared → Prop} (b : Bool) (hz : ZB b s.heap z TI TO f0) (h : Q (.ref z) s) : wpAny (model prog w) A (pyIter (.ref z)) Q E s := by
  cases b with
  | true => exact EvZ.iterS hz h
  | false => exact wpAny_pyIter_zip hz h
theorem turn_zipB {P : Program} {w : World} {K : PySem.W.Frag} {elts : List Expr} {kk : Nat} {tpos : Pos} {b ta tc : Bool} {a c z TI TO i1 i2 : Addr} (S : ZipSep2 z TI TO i1 i2 [i1, a] [i2, c]) (na : a ≠ i1) (nc : c ≠ i2) :
    Turn P w K (.Tuple elts kk tpos) (ItzB K b ta tc a c) [z, TI, TO, i1, i2] z (fun i h => ZB b h z TI TO .none ∧ IsTupOf2 h TI (.ref i1) (.ref i2) ∧ (∃ x y, IsTupOf2 h TO x y) ∧ ItB h ta i1 a i ∧ ItB h tc i2 c i) where
  mem := by simp
  obj := fun i h st q hc => by
    obtain ⟨hz, hTI, ⟨x, y, hTO⟩, t1, t2⟩ := st
    have e' : q = z ∨ q = TI ∨ q = TO ∨ q = i1 ∨ q = i2 := by simpa using hc
    rcases e' with rfl | rfl | rfl | rfl | rfl
    · exact ⟨_, hz, fun v q => nomatch q⟩
    · exact ⟨_, hTI, fun v q => nomatch q⟩
    · exact ⟨_, hTO, fun v q => nomatch q⟩
    · exact itB_obj t1
    · exact itB_obj t2
  keep := fun i h h' st k => by
    obtain ⟨hz, hTI, ⟨x, y, hTO⟩, t1, t2⟩ := st
    exact ⟨k z (by simp) _ hz, k TI (by simp) _ hTI, ⟨x, y, k TO (by simp) _ hTO⟩, itB_at t1 fun o q => k i1 (by simp) o q, itB_at t2 fun o q => k i2 (by simp) o q⟩
  item := by
    intro X hP hw hK hc i pins s σ H E I hf st hg
    subst hP hw hK
    obtain ⟨hz, hTI, ⟨x0, y0, hTO⟩, t1, t2⟩ := st
    obtain ⟨xs, ys, x, y, hqx, hqy, hx, hy⟩ := hg
    obtain ⟨its, rv, p⟩ := seB I hqx
    obtain ⟨its2, rv2, p2⟩ := seB I hqy
    obtain ⟨u, hu, ru⟩ := rv.get hx
    obtain ⟨u2, hu2, ru2⟩ := rv2.get hy
    have hh : X.A.in1.handled = none := I.ok.hd hc
    have l1 : i < its.toArray.size := by simpa using (List.getElem?_eq_some_iff.mp hu).1
    have l2 : i < its2.toArray.size := by simpa using (List.getElem?_eq_some_iff.mp hu2).1
    have hzl : z < s.heap.objs.size := Heap.lt_size hz
    refine nextB_item b S (drB hh ta i1 a na its.toArray) (drB hh tc i2 c nc its2.toArray) hz hTI hTO ⟨t1, p⟩ ⟨t2, p2⟩ l1 l2 fun v1 v2 h' tk e1 e2 z' TO' q1 q2 tT tsz hk => ?_
    obtain rfl : v1 = u := by simpa [hu] using e1.symm
    obtain rfl : v2 = u2 := by simpa [hu2] using e2.symm
    refine ⟨_, rfl, goB (s := { s with heap := h', toks := tk }) b z' fun h'' z'' sb => ?_⟩
    have tT2 : h''.get? s.heap.objs.size = some { cls := .type "tuple", data := .seq #[v1, v2] } := (sb.2 _ (Nat.ne_of_gt hzl)).trans tT
    have new : ObjOk X.prog X.w (L2.upd H s.heap.objs.size (.tup [x, y])) h'' s.heap.objs.size (.tup [x, y]) := ⟨by show 2 ≤ sizeLine; decide, [v1, v2], .cons ru (.cons ru2 .nil), ⟨_, tT2, rfl, _, rfl⟩⟩
    have I1 : Inv X pins σ (L2.upd H s.heap.objs.size (.tup [x, y])) { s with heap := h'', toks := tk } :=
      I.turnedNew (t' := tk) (ch := [z, TI, TO, i1, i2]) (fun c o hb q => (sb.2 c (fun q' => hb (by simp [q']))).trans (hk c o (fun q' => hb (by simp [q'])) (fun q' => hb (by simp [q'])) (fun q' => hb (by simp [q'])) (fun q' => hb (by simp [q'])) q)) hf (Nat.le_refl _) new
    refine ⟨.ref s.heap.objs.size, _, I1, rfl, ⟨_, x, y, rfl, I.hok.fresh (Nat.le_refl _), rfl, fun l hl => by rw [seB_inj I hl hqx]; exact hx, fun l hl => by rw [seB_inj I hl hqy]; exact hy⟩, ⟨z'', ?_, ⟨v1, v2, ?_⟩, ?_, ?_⟩, fun q hq => ?_⟩
    · exact (sb.2 _ S.TIz).trans (hk _ _ S.TIz S.TITO S.TIi1 S.TIi2 hTI)
    · exact (sb.2 _ S.TOz).trans TO'
    · exact itB_at q1.1 fun o q => (sb.2 _ S.zi1.symm).trans q
    · exact itB_at q2.1 fun o q => (sb.2 _ S.zi2.symm).trans q
    · have hlt : q < s.heap.objs.size := by
        have e' : q = z ∨ q = TI ∨ q = TO ∨ q = i1 ∨ q = i2 := by simpa using hq
        rcases e' with rfl | rfl | rfl | rfl | rfl
        · exact hzl
        · exact Heap.lt_size hTI
        · exact Heap.lt_size hTO
        · obtain ⟨_, e1, _⟩ := itB_obj t1; exact Heap.lt_size e1
        · obtain ⟨_, e1, _⟩ := itB_obj t2; exact Heap.lt_size e1
      rw [upd_ne (Nat.ne_of_lt hlt)]
      exact (hf q hq).1
  done := by
    intro X hP hw hK hc i pins s σ H E I hf st hg
    subst hP hw hK
    obtain ⟨hz, hTI, ⟨x0, y0, hTO⟩, t1, t2⟩ := st
    obtain ⟨xs, ys, hqx, hqy, l1, l2, le, ls⟩ := hg
    obtain ⟨its, rv, p⟩ := seB I hqx
    obtain ⟨its2, rv2, p2⟩ := seB I hqy
    have hh : X.A.in1.handled = none := I.ok.hd hc
    have n1 : its.toArray.size = xs.length := by simp [rv.length]
    have n2 : its2.toArray.size = ys.length := by simp [rv2.length]
    exact nextB_end b hh S (drB hh ta i1 a na its.toArray) (drB hh tc i2 c nc its2.toArray) hz hTI hTO ⟨t1, p⟩ ⟨t2, p2⟩ (by omega) (by omega) (by omega) (fun e => by have := ls e; omega) fun h' tk hk => ⟨rfl, I.turnedL (t' := tk) (ch := [z, TI, TO, i1, i2]) (fun c o hb q =>
      hk c o (fun q' => hb (by simp [q'])) (fun q' => hb (by simp [q'])) (fun q' => hb (by simp [q'])) (fun q' => hb (by simp [q'])) q) hf⟩
  self := fun A i s Q E st h => iterB b st.1 h
def iZipB (K : PySem.W.Frag) (b : Bool) (ta : TA) : TI := fun σ H R => ta σ H fun vs H1 => ∃ (a c : Addr) (t t' : Bool) (xs ys : List V), vs = [.ref a, .ref c] ∧ SqB K H1 t a xs ∧ SqB K H1 t' c ys ∧ R (ItzB K b t t' a c) H1
theorem pie_zip {X : Cx} {pins : List (Addr × Obj)} {σ : St} {H1 : Hp} {s1 : Shared} {h' : Heap} {R : It → Hp → Prop} {b t t' : Bool} {a c : Addr} {elts : List Expr} {kk : Nat} {tpos : Pos} (I1 : Inv X pins σ H1 s1) (ha : a < s1.heap.objs.size) (hc : c < s1.heap.objs.size)
    (hz : ZB b h' (s1.heap.objs.size + 4) (s1.heap.objs.size + 2) (s1.heap.objs.size + 3) .none) (hTI : IsTupOf2 h' (s1.heap.objs.size + 2) (.ref s1.heap.objs.size) (.ref (s1.heap.objs.size + 1))) (hTO : IsTupOf2 h' (s1.heap.objs.size + 3) .none .none)
    (h1 : h'.get? s1.heap.objs.size = some (itO t a)) (h2 : h'.get? (s1.heap.objs.size + 1) = some (itO t' c)) (hk : ∀ c o, s1.heap.get? c = some o → h'.get? c = some o) (q : R (ItzB X.K b t t' a c) H1) :
    PIE X pins σ (.Tuple elts kk tpos) R (.ref (s1.heap.objs.size + 4)) { s1 with heap := h' } := by
  have fresh5 : ∀ q, q ∈ [s1.heap.objs.size + 4, s1.heap.objs.size + 2, s1.heap.objs.size + 3, s1.heap.objs.size, s1.heap.objs.size + 1] → FpOk X pins H1 q := fun q hq => by
    have hle : s1.heap.objs.size ≤ q := by
      simp only [List.mem_cons, List.not_mem_nil, or_false] at hq
      omega
    exact I1.fpOk hle (I1.hok.fresh hle)
  have I2 : Inv X pins σ H1 { s1 with heap := h' } := I1.kept (t' := s1.toks) hk
  exact ⟨s1.heap.objs.size + 4, [s1.heap.objs.size + 4, s1.heap.objs.size + 2, s1.heap.objs.size + 3, s1.heap.objs.size, s1.heap.objs.size + 1], _, _, H1, rfl, I2,
    turn_zipB (zip_sep2 (fp1 := [a]) (fp2 := [c]) (by simpa using ha) (by simpa using hc)) (Nat.ne_of_lt ha) (Nat.ne_of_lt (Nat.lt_succ_of_lt hc)), ⟨hz, hTI, ⟨_, _, hTO⟩, itB_new h1, itB_new h2⟩, fresh5, q⟩
theorem pi_zipB {X : Cx} {e e2 : Expr} {ta : TA} {p pos tpos : Pos} {elts : List Expr} {kk : Nat} (hg : Gl X "zip") (hm : X.mg "zip" = none) (ha : PA X [e, e2] ta)
    (hs : starEach [e, e2] X.env = (false, eval e X.env) :: starEach [e2] X.env := by rfl) (hpl : (backTo pos (starEach [e2] X.env)).any (·.1) = false := by rfl) :
    PI X (.Tuple elts kk tpos) (.Call (.Name "zip" p) [e, e2] [] pos) (iZipB X.K false ta) := by
  refine ⟨fun pins s σ H R I h => ?_⟩
  refine PyProof.Rows.Call_ (ld_blt I hg hm PyProof.Rows.boot_zip (PyProof.Rows.callWith_type1 (thn (ha.run pos pins s σ H _ I h) fun us s1 ⟨vs, H1, I1, r1, q1⟩ => ?_) hs hpl))
  obtain ⟨a, c, t, t', xs, ys, ex, hx, hy, q⟩ := q1
  subst ex
  cases r1 with
  | cons r rr =>
    cases rr with
    | cons r' rr =>
      cases rr
      cases r
      cases r'
      obtain ⟨its, rv, p1⟩ := seB I1 hx
      obtain ⟨its2, rv2, p2⟩ := seB I1 hy
      exact zip_begins2 (begB t a its.toArray) (begB t' c its2.toArray) p1 p2 fun h' hz hTI hTO h1 h2 hsz hk => iterB false hz (pie_zip I1 p1.lt p2.lt hz hTI hTO h1 h2 hk q)
theorem pi_zipS {X : Cx} {e e2 : Expr} {ta : TA} {p pos tpos kp cp : Pos} {j : Nat} {elts : List Expr} {kk : Nat} (hg : Gl X "zip") (hm : X.mg "zip" = none) (ha : PA X [e, e2] ta)
    (hs : backTo pos (starEach [e, e2] X.env) = (false, eval e X.env) :: backTo pos (starEach [e2] X.env) := by rfl) (hpl : (backTo pos (starEach [e, e2] X.env)).any (·.1) = false := by rfl) :
    PI X (.Tuple elts kk tpos) (.Call (.Name "zip" p) [e, e2] [⟨some "strict", .Constant (.bool true) j cp, kp⟩] pos) (iZipB X.K true ta) := by
  refine ⟨fun pins s σ H R I h => ?_⟩
  refine wpAny_Call_Name_kw (ld_blt I hg hm PyProof.Rows.boot_zip (EvZ.callKwT (thn (ha.run pos pins s σ H _ I h) fun us s1 ⟨vs, H1, I1, r1, q1⟩ => ?_) hs hpl rfl rfl))
  refine thn (pk_cons (X := X) (nm := some "strict") (kpos := kp) (pe_bl (b := true) (j := j) (pos := cp)) pk_nil |>.run pos pins s1 σ H1 (fun zs H2 => zs = [.bl true] ∧ H2 = H1) I1 ⟨rfl, rfl⟩) fun ws s2 ⟨zs, H2, I2, rz, ez, e2⟩ => ?_
  subst ez e2
  obtain ⟨a, c, t, t', xs, ys, ex, hx, hy, q⟩ := q1
  subst ex
  cases r1 with
  | cons r rr =>
    cases rr with
    | cons r' rr =>
      cases rr
      cases r
      cases r'
      cases rz with
      | cons w wr =>
      cases wr
      cases w
      obtain ⟨its, rv, p1⟩ := seB I2 hx
      obtain ⟨its2, rv2, p2⟩ := seB I2 hy
      exact EvZ.beginsS (begB t a its.toArray) (begB t' c its2.toArray) p1 p2 fun h' hz hTI hTO h1 h2 hsz hk => iterB true hz (pie_zip I2 p1.lt p2.lt hz hTI hTO h1 h2 hk q)
/-- enumerate(a list), of a tuple -/
def IteB (K : PySem.W.Frag) (t : Bool) (a : Addr) : It :=
  ⟨fun i H => ∃ (xs : List V) (x : V), SqB K H t a xs ∧ xs[i]? = some x, fun i H v H' => ∃ T x, v = .ref T ∧ H T = none ∧ H' = upd H T (.tup [.int (i : Nat), x]) ∧ ∀ xs, SqB K H t a xs → xs[i]? = some x, fun i H => ∃ xs : List V, SqB K H t a xs ∧ xs.length = i⟩
theorem turn_enB {P : Program} {w : World} {K : PySem.W.Frag} {elts : List Expr} {kk : Nat} {tpos : Pos} (t : Bool) (a e it : Addr) (na : a ≠ it) (ea : e ≠ a) (ei : e ≠ it) :
    Turn P w K (.Tuple elts kk tpos) (IteB K t a) [e, it] e (fun i h => (∃ old, IsEnum h e it ((i : Nat) : Int) old) ∧ ItB h t it a i) where
  mem := by simp
  obj := fun i h st b hb => by
    obtain ⟨⟨old, he⟩, t1⟩ := st
    have e' : b = e ∨ b = it := by simpa using hb
    rcases e' with rfl | rfl
    · exact ⟨_, he, fun v q => nomatch q⟩
    · exact itB_obj t1
  keep := fun i h h' st k => let ⟨⟨old, he⟩, hi⟩ := st; ⟨⟨old, k e (by simp) _ he⟩, itB_at hi fun o q => k it (by simp) o q⟩
  item := by
    intro X hP hw hK hc i pins s σ H E I hf st hg
    subst hP hw hK
    obtain ⟨⟨old, he⟩, hit⟩ := st
    obtain ⟨xs, x, hq, hx⟩ := hg
    obtain ⟨its, rv, p⟩ := seB I hq
    obtain ⟨u, hu, ru⟩ := rv.get hx
    have hh : X.A.in1.handled = none := I.ok.hd hc
    have hel : e < s.heap.objs.size := Heap.lt_size he
    have hil : it < s.heap.objs.size := by obtain ⟨_, q, _⟩ := itB_obj hit; exact Heap.lt_size q
    have l1 : i < its.toArray.size := by simpa using (List.getElem?_eq_some_iff.mp hu).1
    refine wpAny_pyNext_enum_itemD (drB hh t it a na its.toArray) he ⟨hit, p⟩ l1 ei (by simp [ei, ea]) fun v h' tk e1 ho st' hT hsz hk => ?_
    obtain rfl : v = u := by simpa [hu] using e1.symm
    refine ⟨_, rfl, wpAny_letOwnedTupleGo_enum (s := { s with heap := h', toks := tk + 1 }) ho fun h'' he' sb => ?_⟩
    have tT2 : h''.get? s.heap.objs.size = some { cls := .type "tuple", data := .seq #[.int i tk, v] } := (sb.2 _ (Nat.ne_of_gt hel)).trans hT
    have new : ObjOk X.prog X.w (L2.upd H s.heap.objs.size (.tup [.int (i : Nat), x])) h'' s.heap.objs.size (.tup [.int (i : Nat), x]) := ⟨by show 2 ≤ sizeLine; decide, [.int i tk, v], .cons ⟨_, rfl⟩ (.cons ru .nil), ⟨_, tT2, rfl, _, rfl⟩⟩
    have I1 : Inv X pins σ (L2.upd H s.heap.objs.size (.tup [.int (i : Nat), x])) { s with heap := h'', toks := tk + 1 } :=
      I.turnedNew (t' := tk + 1) (ch := [e, it]) (fun b ob hb q => (sb.2 b (fun z => hb (by simp [z]))).trans (hk b ob (fun z => hb (by simp [z])) (fun z => hb (by simp [z])) q)) hf (Nat.le_refl _) new
    refine ⟨.ref s.heap.objs.size, _, I1, rfl, ⟨_, x, rfl, I.hok.fresh (Nat.le_refl _), rfl, fun ys hy => by rw [seB_inj I hy hq]; exact hx⟩, ⟨⟨v, ?_⟩, itB_at st'.1 fun o q => (sb.2 it (Ne.symm ei)).trans q⟩, fun b hb => ?_⟩
    · have e1 : ((i + 1 : Nat) : Int) = (i : Int) + 1 := by omega
      rw [e1]; exact he'
    · have hb' : b < s.heap.objs.size := by
        have e' : b = e ∨ b = it := by simpa using hb
        rcases e' with rfl | rfl
        · exact hel
        · exact hil
      rw [upd_ne (Nat.ne_of_lt hb')]
      exact (hf b hb).1
  done := by
    intro X hP hw hK hc i pins s σ H E I hf st hg
    subst hP hw hK
    obtain ⟨⟨old, he⟩, hit⟩ := st
    obtain ⟨xs, hq, hx⟩ := hg
    obtain ⟨its, rv, p⟩ := seB I hq
    have hh : X.A.in1.handled = none := I.ok.hd hc
    obtain ⟨f0, f1, f2, f3, f4, f5⟩ := hf it (by simp)
    have hl : its.toArray.size = i := by simp [← rv.length, hx]
    subst hl
    exact wpAny_pyNext_enum_endD (drB hh t it a na its.toArray) he ⟨hit, p⟩ fun h' eb => ⟨rfl, I.turned (t' := s.toks) (fun b o hb q => eb b o hb q) f0 f1 f3 f4 f5⟩
  self := fun A i s Q E st h => let ⟨⟨_, he⟩, _⟩ := st; wpAny_pyIter_enum he h
def iEnB (K : PySem.W.Frag) (ta : TA) : TI := fun σ H R => ta σ H fun vs H1 => ∃ (a : Addr) (t : Bool) (xs : List V), vs = [.ref a] ∧ SqB K H1 t a xs ∧ R (IteB K t a) H1
theorem pi_enB {X : Cx} {e : Expr} {ta : TA} {p pos tpos : Pos} {elts : List Expr} {kk : Nat} (hg : Gl X "enumerate") (hm : X.mg "enumerate" = none) (ha : PA X [e] ta) (hs : starEach [e] X.env = [(false, eval e X.env)] := by rfl) :
    PI X (.Tuple elts kk tpos) (.Call (.Name "enumerate" p) [e] [] pos) (iEnB X.K ta) := by
  refine ⟨fun pins s σ H R I h => ?_⟩
  refine PyProof.Rows.Call_ (ld_blt I hg hm PyProof.Rows.boot_enumerate (PyProof.Rows.callWith_type1 (thn (ha.run pos pins s σ H _ I h) fun us s1 ⟨vs, H1, I1, r1, q1⟩ => ?_) hs rfl))
  obtain ⟨a, t, xs, ex, hq, q⟩ := q1
  subst ex
  cases r1 with
  | cons r rr =>
    cases rr
    cases r
    obtain ⟨its, rv, p1⟩ := seB I1 hq
    refine EvZ.beginsE (begB t a its.toArray) p1 fun h' he hit hsz hk => wpAny_pyIter_enum he ?_
    have I2 : Inv X pins σ H1 { s1 with heap := h' } := I1.kept (t' := s1.toks) hk
    refine ⟨s1.heap.objs.size + 1, [s1.heap.objs.size + 1, s1.heap.objs.size], _, _, H1, rfl, I2, turn_enB t a (s1.heap.objs.size + 1) s1.heap.objs.size (Nat.ne_of_lt p1.lt) (Nat.ne_of_gt (Nat.lt_succ_of_lt p1.lt)) (Nat.succ_ne_self _), ⟨⟨.none, he⟩, itB_new hit⟩, fun b hb => ?_, q⟩
    have hle : s1.heap.objs.size ≤ b := by
      have e' : b = s1.heap.objs.size + 1 ∨ b = s1.heap.objs.size := by simpa using hb
      rcases e' with rfl | rfl
      · exact Nat.le_add_right _ _
      · exact Nat.le_refl _
    exact I1.fpOk hle (I1.hok.fresh hle)
/-! mirrors -/
def pvSq : PV → Option (List PV)
  | .lst xs => some xs
  | .tup xs => some xs
  | _ => none
def pvZipB : List PV → Option (List PV)
  | [p, q] => (pvSq p).bind fun xs => (pvSq q).map fun ys => List.zipWith pairP xs ys
  | _ => none
def pvZipS : List PV → Option (List PV)
  | [p, q] => (pvSq p).bind fun xs => (pvSq q).bind fun ys => if xs.length = ys.length then some (List.zipWith pairP xs ys) else none
  | _ => none
def mZipB (ms : List M) : MI := fun ρ => (mArgs ms ρ).bnd fun ps ρ1 => Res.of (pvZipB ps) ρ1
def mZipS (ms : List M) : MI := fun ρ => (mArgs ms ρ).bnd fun ps ρ1 => Res.of (pvZipS ps) ρ1
def enumP (xs : List PV) : List PV := List.mapIdx (fun (i : Nat) x => pairP (.int i) x) xs
def pvEnum : List PV → Option (List PV)
  | [p] => (pvSq p).map enumP
  | _ => none
def mEnum (ms : List M) : MI := fun ρ => (mArgs ms ρ).bnd fun ps ρ1 => Res.of (pvEnum ps) ρ1
theorem sq_rep {K : PySem.W.Frag} {F : Hp} {p : PV} {v : V} {xs : List PV} (r : Rep K F p v) (e : pvSq p = some xs) : ∃ (a : Addr) (t : Bool) (vs : List V), v = .ref a ∧ (∀ H, Same F H → SqB K H t a vs) ∧ Reps K F xs vs := by
  unfold pvSq at e
  split at e
  · cases e
    unfold Rep at r
    obtain ⟨a, vs, rfl, h1, h2⟩ := r
    exact ⟨a, false, vs, rfl, fun H s => SqL.of (s _ _ h1), h2⟩
  · cases e
    unfold Rep at r
    obtain ⟨a, vs, rfl, h1, h2⟩ := r
    exact ⟨a, true, vs, rfl, fun H s => SqT.of (s _ _ h1), h2⟩
  · cases e
theorem walk_zipB {K : PySem.W.Frag} {b t t' : Bool} {a c : Addr} {xs ys : List V} {n : Nat} (hn : n = min xs.length ys.length) (hb : b = true → xs.length = ys.length) : Walk (ItzB K b t t' a c) n (fun H => SqB K H t a xs ∧ SqB K H t' c ys) (YPair (fun i => xs[i]?) (fun i => ys[i]?)) := by
  subst hn
  refine ⟨fun i _ hi q => ?_, fun _ q => ⟨xs, ys, q.1, q.2, by omega, by omega, by omega, fun z => by have := hb z; omega⟩, fun i H v H' _ q y => ?_⟩
  · have h1 : i < xs.length := by omega
    have h2 : i < ys.length := by omega
    exact ⟨xs, ys, xs[i], ys[i], q.1, q.2, by simp [h1], by simp [h2]⟩
  · obtain ⟨T, x, z, h1, h2, h3, h4, h5⟩ := y
    exact ⟨T, x, z, h1, h2, h3, h4 xs q.1, h5 ys q.2⟩
theorem walk_enB {K : PySem.W.Frag} {t : Bool} {a : Addr} {xs : List V} : Walk (IteB K t a) xs.length (fun H => SqB K H t a xs) (YPair (fun i => some (.int (i : Nat))) (fun i => xs[i]?)) := by
  refine ⟨fun i _ hi q => ⟨xs, xs[i], q, by simp [hi]⟩, fun _ q => ⟨xs, q, rfl⟩, fun i H v H' _ q y => ?_⟩
  obtain ⟨T, x, h1, h2, h3, h4⟩ := y
  exact ⟨T, _, x, h1, h2, h3, rfl, h4 xs q⟩
section
variable {X : Cx} {W : WX} {pos : Pos}
theorem i_zipB {p tpos : Pos} {e e2 : Expr} {m m' : M} {elts : List Expr} {kk : Nat} (hg : Gl X "zip") (hm : X.mg "zip" = none) (ha : SndE X W e m) (hb : SndE X W e2 m') (hs : starEach [e, e2] X.env = (false, eval e X.env) :: starEach [e2] X.env := by rfl) (hs2 : starEach [e2] X.env = [(false, eval e2 X.env)] := by rfl)
    (hpl : (backTo pos (starEach [e2] X.env)).any (·.1) = false := by rfl) : SndI X W (.Tuple elts kk tpos) (.Call (.Name "zip" p) [e, e2] [] pos) (mZipB [m, m']) := fun F ρ σ H R g hp => by
  refine wi_of (pi_zipB hg hm pa_wa hs hpl) ?_
  refine (sa_cons ha (sa_cons hb sa_nil hs2) hs).thenL g hp fun F1 ρ1 H1 ps vs st g1 rp len hp1 => ?_
  obtain ⟨z, ez⟩ := hp1.some
  rw [ez] at hp1
  unfold pvZipB at ez
  split at ez
  · rename_i p q
    obtain ⟨v, w, rfl, r, r'⟩ := rp.two
    cases e1 : pvSq p with
    | none => rw [e1] at ez; cases ez
    | some xs =>
    cases e2 : pvSq q with
    | none => rw [e1, e2] at ez; cases ez
    | some ys =>
    rw [e1, e2] at ez
    cases ez
    obtain ⟨a, t, us, rfl, h1, h2⟩ := sq_rep r e1
    obtain ⟨c, t', ws, rfl, h3, h4⟩ := sq_rep r' e2
    refine ⟨a, c, t, t', us, ws, rfl, h1 _ g1.sub, h3 _ g1.sub, hp1 F1 H1 _ Stp.refl g1 ⟨?_⟩⟩
    exact ⟨_, _, walk_zipB (xs := us) (ys := ws) (by rw [List.length_zipWith, h2.length, h4.length]) (fun z => by cases z), fun H2 s => ⟨h1 _ s, h3 _ s⟩, fun i p F2 H2 x H3 e s1 s2 y => item_pair h2 h4 s1 s2 e y⟩
  · cases ez
theorem i_zipS2 {p tpos kp cp : Pos} {j : Nat} {e e2 : Expr} {m m' : M} {elts : List Expr} {kk : Nat} (c : Ctx X W) (hg : Gl X "zip") (hm : X.mg "zip" = none) (ha : SndE X W e m) (hb : SndE X W e2 m') (hs : starEach [e, e2] X.env = (false, eval e X.env) :: starEach [e2] X.env := by rfl) (hs2 : starEach [e2] X.env = [(false, eval e2 X.env)] := by rfl)
    (hs3 : backTo pos (starEach [e, e2] X.env) = (false, eval e X.env) :: backTo pos (starEach [e2] X.env) := by rfl) (hpl : (backTo pos (starEach [e, e2] X.env)).any (·.1) = false := by rfl) : SndI X W (.Tuple elts kk tpos) (.Call (.Name "zip" p) [e, e2] [⟨some "strict", .Constant (.bool true) j cp, kp⟩] pos) (mZipS [m, m']) := fun F ρ σ H R g hp => by
  refine wi_of (pi_zipS hg hm pa_wa hs3 hpl) ?_
  refine (sa_cons ha (sa_cons hb sa_nil hs2) hs).thenL g hp fun F1 ρ1 H1 ps vs st g1 rp len hp1 => ?_
  obtain ⟨z, ez⟩ := hp1.some
  rw [ez] at hp1
  unfold pvZipS at ez
  split at ez
  · rename_i p q
    obtain ⟨v, w, rfl, r, r'⟩ := rp.two
    cases e1 : pvSq p with
    | none => rw [e1] at ez; cases ez
    | some xs =>
    cases e2 : pvSq q with
    | none => rw [e1, e2] at ez; cases ez
    | some ys =>
    rw [e1, e2] at ez
    simp only [Option.bind_some] at ez
    split at ez
    · rename_i hl
      cases ez
      obtain ⟨a, t, us, rfl, h1, h2⟩ := sq_rep r e1
      obtain ⟨c, t', ws, rfl, h3, h4⟩ := sq_rep r' e2
      refine ⟨a, c, t, t', us, ws, rfl, h1 _ g1.sub, h3 _ g1.sub, hp1 F1 H1 _ Stp.refl g1 ⟨?_⟩⟩
      exact ⟨_, _, walk_zipB (xs := us) (ys := ws) (by rw [List.length_zipWith, h2.length, h4.length]) (fun _ => by rw [← h2.length, ← h4.length]; exact hl), fun H2 s => ⟨h1 _ s, h3 _ s⟩, fun i p F2 H2 x H3 e s1 s2 y => item_pair h2 h4 s1 s2 e y⟩
    · cases ez
  · cases ez
theorem i_enum1 {p tpos : Pos} {e : Expr} {m : M} {elts : List Expr} {kk : Nat} (c : Ctx X W) (hg : Gl X "enumerate") (hm : X.mg "enumerate" = none) (ha : SndE X W e m) (hs : starEach [e] X.env = [(false, eval e X.env)] := by rfl) :
    SndI X W (.Tuple elts kk tpos) (.Call (.Name "enumerate" p) [e] [] pos) (mEnum [m]) := fun F ρ σ H R g hp => by
  refine wi_of (pi_enB hg hm pa_wa hs) ?_
  refine (sa_cons ha sa_nil hs).thenL g hp fun F1 ρ1 H1 ps vs st g1 rp len hp1 => ?_
  obtain ⟨z, ez⟩ := hp1.some
  rw [ez] at hp1
  unfold pvEnum at ez
  split at ez
  · rename_i p
    obtain ⟨v, vs', rfl, r, r'⟩ := rp.inv
    rw [r'.inv0]
    cases e1 : pvSq p with
    | none => rw [e1] at ez; cases ez
    | some xs =>
    rw [e1] at ez
    cases ez
    obtain ⟨a, t, us, rfl, h1, h2⟩ := sq_rep r e1
    refine ⟨a, t, us, rfl, h1 _ g1.sub, hp1 F1 H1 _ Stp.refl g1 ⟨?_⟩⟩
    have wk : Walk (IteB X.K t a) (enumP xs).length (fun H => SqB X.K H t a us) (YPair (fun i => some (.int (i : Nat))) (fun i => us[i]?)) := by
      rw [show (enumP xs).length = us.length by simp [enumP, h2.length]]
      exact walk_enB
    refine ⟨_, _, wk, fun H2 s => h1 _ s, fun i p F2 H2 x H3 e s1 s2 y => ?_⟩
    · obtain ⟨T, x, z, rfl, hT, rfl, hx, hz⟩ := y
      cases hx
      have ei : ∃ q, xs[i]? = some q ∧ p = pairP (.int (i : Nat)) q := by
        unfold enumP at e
        rw [List.getElem?_mapIdx] at e
        cases eq : xs[i]? with
        | none => rw [eq] at e; cases e
        | some q => rw [eq] at e; cases e; exact ⟨q, rfl, rfl⟩
      obtain ⟨q, eq, rfl⟩ := ei
      obtain ⟨v1, k1, k2⟩ := h2.get eq
      rw [show us[i]? = some z from hz] at k1
      cases k1
      have sT : Same F2 (L2.upd F2 T (.tup [.int (i : Nat), z])) := Same.upd (s2.free hT)
      refine .inr (.inl ⟨T, _, hT, rfl, ?_⟩)
      unfold pairP Rep
      exact ⟨T, _, rfl, upd_same, Reps.cons Rep.int (Reps.cons (Rep.mono sT _ _ (Rep.mono s1 _ _ k2)) Reps.nil)⟩
  · cases ez
end
end Ev

set_option Elab.async false
set_option linter.all false
set_option maxRecDepth 100000
set_option maxHeartbeats 1000000
/-! enumerate(zip(a, b)), at the level of the machine -/
namespace EvZ
open PySem
abbrev ZG (h : Heap) (z TI TO : Addr) (f0 : Value) (f1 : Bool) : Prop := h.get? z = some { cls := .type "zip", dict := none, data := .fields #[f0, .bool f1, .bool false, .ref TI, .ref TO], slots := #[] }
def Free0 (f0 : Value) : Prop := f0 = .none ∨ ∃ a : Nat, f0 = rawInt (a : Int)
section
variable {prog : Program} {w : World} {A : Around} {E : Value → Shared → Prop} {s : Shared} {z TI TO i1 i2 : Addr} {fp1 fp2 : List Addr} {n1 n2 i : Nat} {P1 P2 : Nat → Value → Prop} {St1 St2 : Nat → Heap → Prop} {a1 a2 : Value}
theorem alive_or {a : Addr} {Q : Option Obj → Shared → Prop} (h : Q (s.heap.get? a) s) : wpAny (model prog w) A (loadIfAlive a) Q E s := fun Γ p hΓ => by
  unfold loadIfAlive
  first | (rw [Sem.wp_loadIfAlive]; exact h) | (simp only [Sem.wp_loadIfAlive]; exact h) | (simp; exact h)
theorem isFree {f0 : Value} {f1 : Bool} {Q : Bool → Shared → Prop} (hz : ZG s.heap z TI TO f0 f1) (hf : Free0 f0) (h1 : Q true s) (h2 : ∀ h' f1', ZG h' z TI TO f0 f1' → Heap.SameBut z s.heap h' → Q false { s with heap := h' }) :
    wpAny (model prog w) A (Builtin.SmallTypes.ownedTupleIsFree (.ref z)) Q E s := by
  unfold Builtin.SmallTypes.ownedTupleIsFree
  rcases hf with rfl | ⟨a, rfl⟩
  · exact wpAny_bind (wpAny_field hz rfl (x := .none) rfl (wpAny_pure h1))
  · refine wpAny_bind (wpAny_field hz rfl (x := rawInt (a : Int)) rfl ?_)
    show wpAny _ _ (loadIfAlive (a : Int).toNat >>= _) _ _ _
    refine wpAny_bind (alive_or ?_)
    cases hg : s.heap.get? (a : Int).toNat with
    | none => exact wpAny_pure h1
    | some o =>
      show wpAny _ _ (field (.ref z) 1 >>= _) _ _ _
      refine wpAny_bind (wpAny_field hz rfl (x := .bool f1) rfl ?_)
      cases f1 with
      | true =>
        show wpAny _ _ (pure false) _ _ _
        refine wpAny_pure ?_
        exact h2 s.heap true hz ⟨rfl, fun b hb => rfl⟩
      | false =>
        show wpAny _ _ (setField (.ref z) 1 (.bool true) >>= _) _ _ _
        refine wpAny_bind (wpAny_setField_rec hz (by simp) fun h' hz' hs' => wpAny_pure (h2 h' true hz' hs'))
theorem nextG_item {f0 : Value} {f1 : Bool} {Q : Value → Shared → Prop} (S : ZipSep2 z TI TO i1 i2 fp1 fp2) (D1 : Draws prog w A i1 fp1 n1 P1 St1) (D2 : Draws prog w A i2 fp2 n2 P2 St2)
    (hz : ZG s.heap z TI TO f0 f1) (hf : Free0 f0) (hTI : IsTupOf2 s.heap TI (.ref i1) (.ref i2)) (hTO : IsTupOf2 s.heap TO a1 a2) (st1 : St1 i s.heap) (st2 : St2 i s.heap) (lt1 : i < n1) (lt2 : i < n2)
    (hQ : ∀ x1 x2 h' tk f0' f1', P1 i x1 → P2 i x2 → Free0 f0' → ZG h' z TI TO f0' f1' → (∃ a b, IsTupOf2 h' TO a b) → St1 (i + 1) h' → St2 (i + 1) h' → IsTupOf2 h' s.heap.objs.size x1 x2 → h'.objs.size = s.heap.objs.size + 1 →
      (∀ c o, c ≠ z → c ≠ TO → c ≠ i1 → c ≠ i2 → s.heap.get? c = some o → h'.get? c = some o) → Q (.ref s.heap.objs.size) { s with heap := h', toks := tk }) :
    wpAny (model prog w) A (Builtin.«zip.__next__» ⟨[.ref z], []⟩) (fun fin s' => ∃ v, fin = .done (.ret v) ∧ Q v s') E s := by
  obtain ⟨hp, g, d, tk0, os⟩ := s
  show wpAny _ _ (field (.ref z) 2 >>= _) _ _ _
  refine wpAny_bind (wpAny_field hz rfl (x := .bool false) rfl ?_)
  show wpAny _ _ (field (.ref z) 3 >>= _) _ _ _
  refine wpAny_bind (wpAny_field hz rfl (x := .ref TI) rfl (wpAny_bind (wpAny_seqItems hTI rfl ?_)))
  show wpAny _ _ (Builtin.SmallTypes.ownedTupleIsFree (.ref z) >>= _) _ _ _
  refine wpAny_bind (isFree hz hf ?_ fun q0 f1' zq sq => ?_)
  · simp only [if_true]
    refine wpAny_bind (wpAny_rule (wpAny_bind (wpAny_field hz rfl (x := .ref TO) rfl ?_)))
    refine wpAny_bind (wpAny_setField_rec hz (by simp) fun k0 zz0 sb0 => ?_)
    replace zz0 : ZG k0 z TI TO .ellipsis f1 := zz0
    replace sb0 : Heap.SameBut z hp k0 := sb0
    refine wpAny_bind ?_
    simp only [List.zipIdx_cons, List.zipIdx_nil, List.forIn_cons, List.forIn_nil]
    refine wpAny_bind (wpAny_bind (wpAny_onRaise ?_))
    show wpAny _ _ (Builtin.SmallTypes.nextOf (.ref i1) >>= _) _ _ ⟨k0, g, d, tk0, os⟩
    refine wpAny_bind (D1.item i _ _ _ lt1 (D1.over st1 sb0 S.zf1) fun x1 p1 tk1 hx1 sn1 pb1 => wpAny_pure ?_)
    replace pb1 : Heap.SameBut i1 k0 p1 := pb1
    have u1 : IsTupOf2 p1 TO a1 a2 := pb1.extBut _ _ S.Ti1 (sb0.extBut _ _ S.TOz hTO)
    refine wpAny_bind (wpAny_seqItems (s := ⟨p1, g, d, tk1, os⟩) u1 rfl (wpAny_bind (updateSeq_IsTupOf2 (s := ⟨p1, g, d, tk1, os⟩) u1 fun k1 tt1 sb1 => ?_)))
    replace tt1 : IsTupOf2 k1 TO x1 a2 := tt1
    replace sb1 : Heap.SameBut TO p1 k1 := sb1
    refine wpAny_bind (wpAny_letGo (wpAny_pure (wpAny_bind (wpAny_bind (wpAny_onRaise ?_)))))
    show wpAny _ _ (Builtin.SmallTypes.nextOf (.ref i2) >>= _) _ _ ⟨k1, g, d, tk1, os⟩
    refine wpAny_bind (D2.item i _ _ _ lt2 (D2.over (D2.over (D2.over st2 sb0 S.zf2) pb1 S.sep1_2) sb1 S.Tf2) fun x2 p2 tk2 hx2 sn2 pb2 => wpAny_pure ?_)
    replace pb2 : Heap.SameBut i2 k1 p2 := pb2
    have u2 : IsTupOf2 p2 TO x1 a2 := pb2.extBut _ _ S.Ti2 tt1
    refine wpAny_bind (wpAny_seqItems (s := ⟨p2, g, d, tk2, os⟩) u2 rfl (wpAny_bind (updateSeq_IsTupOf2 (s := ⟨p2, g, d, tk2, os⟩) u2 fun k2 tt2 sb2 => ?_)))
    replace tt2 : IsTupOf2 k2 TO x1 x2 := tt2
    replace sb2 : Heap.SameBut TO p2 k2 := sb2
    refine wpAny_bind (wpAny_letGo (wpAny_pure (wpAny_pure (wpAny_bind (wpAny_seqItems (s := ⟨k2, g, d, tk2, os⟩) tt2 rfl (wpAny_bind (wpAny_newTuple ?_)))))))
    have sz2 : k2.objs.size = hp.objs.size := by rw [sb2.1, pb2.1, sb1.1, pb1.1, sb0.1]
    have zz2 : ZG k2 z TI TO .ellipsis f1 := sb2.extBut _ _ S.TOz.symm (pb2.extBut _ _ S.zi2 (sb1.extBut _ _ S.TOz.symm (pb1.extBut _ _ S.zi1 zz0)))
    have kp2 : ∀ c o, c ≠ z → c ≠ TO → c ≠ i1 → c ≠ i2 → hp.get? c = some o → k2.get? c = some o := fun c o cz cT c1 c2 e =>
      sb2.extBut _ _ cT (pb2.extBut _ _ c2 (sb1.extBut _ _ cT (pb1.extBut _ _ c1 (sb0.extBut _ _ cz e))))
    have j1 : St1 (i + 1) k2 := D1.over (D1.over (D1.over sn1 sb1 S.Tf1) pb2 S.sep2_1) sb2 S.Tf1
    have j2 : St2 (i + 1) k2 := D2.over sn2 sb2 S.Tf2
    have zlt : z < k2.objs.size := Heap.lt_size zz2
    show wpAny _ _ (Builtin.SmallTypes.ownedTupleHandOut (.ref z) (.ref k2.objs.size) >>= _) _ _ ⟨k2.push { cls := .type "tuple", data := .seq #[x1, x2] }, g, d, tk2, os⟩
    refine wpAny_bind ?_
    unfold Builtin.SmallTypes.ownedTupleHandOut
    have zz3 : ZG (k2.push { cls := .type "tuple", data := .seq #[x1, x2] }) z TI TO .ellipsis f1 := Heap.get?_push_of_some _ zz2
    refine wpAny_bind (wpAny_setField_rec zz3 (by simp) fun k4 zz4 sb4 => ?_)
    replace zz4 : ZG k4 z TI TO (rawInt k2.objs.size) f1 := zz4
    refine wpAny_setField_rec zz4 (by simp) fun k5 zz5 sb5 => ?_
    replace zz5 : ZG k5 z TI TO (rawInt k2.objs.size) false := zz5
    replace sb4 : Heap.SameBut z (k2.push { cls := .type "tuple", data := .seq #[x1, x2] }) k4 := sb4
    replace sb5 : Heap.SameBut z k4 k5 := sb5
    have up : ∀ c o, c ≠ z → k2.get? c = some o → k5.get? c = some o := fun c o c1 e => sb5.extBut _ _ c1 (sb4.extBut _ _ c1 (Heap.get?_push_of_some _ e))
    have tt5 : IsTupOf2 k5 k2.objs.size x1 x2 := sb5.extBut _ _ (Nat.ne_of_gt zlt) (sb4.extBut _ _ (Nat.ne_of_gt zlt) (Heap.get?_push_size _ rfl))
    have sz5 : k5.objs.size = k2.objs.size + 1 := by rw [sb5.1, sb4.1, Heap.size_push]
    rw [sz2] at tt5 sz5
    refine wpAny_pure ⟨_, rfl, ?_⟩
    show Q (.ref k2.objs.size) ⟨k5, g, d, tk2, os⟩
    rw [sz2]
    exact hQ x1 x2 k5 tk2 _ _ hx1 hx2 (.inr ⟨_, rfl⟩) zz5 ⟨_, _, up _ _ S.TOz tt2⟩ (D1.frame _ _ _ j1 fun b hb o e => up b o (fun q => S.zf1 (q ▸ hb)) e) (D2.frame _ _ _ j2 fun b hb o e => up b o (fun q => S.zf2 (q ▸ hb)) e) tt5 sz5 fun c o cz cT c1 c2 e => up c o cz (kp2 c o cz cT c1 c2 e)
  · replace sq : Heap.SameBut z hp q0 := sq
    simp only [Bool.false_eq_true, if_false]
    refine wpAny_bind ?_
    simp only [← Array.forIn_toList, List.forIn_cons, List.forIn_nil]
    refine wpAny_bind (wpAny_bind (wpAny_holding ?_))
    show wpAny _ _ (Builtin.SmallTypes.nextOf (.ref i1) >>= _) _ _ ⟨q0, g, d, tk0, os⟩
    refine wpAny_bind (D1.item i _ _ _ lt1 (D1.over st1 sq S.zf1) fun x1 p1 tk1 hx1 sn1 pb1 => wpAny_pure ?_)
    replace pb1 : Heap.SameBut i1 q0 p1 := pb1
    refine wpAny_pure (wpAny_bind (wpAny_bind (wpAny_holding ?_)))
    show wpAny _ _ (Builtin.SmallTypes.nextOf (.ref i2) >>= _) _ _ ⟨p1, g, d, tk1, os⟩
    refine wpAny_bind (D2.item i _ _ _ lt2 (D2.over (D2.over st2 sq S.zf2) pb1 S.sep1_2) fun x2 p2 tk2 hx2 sn2 pb2 => wpAny_pure ?_)
    replace pb2 : Heap.SameBut i2 p1 p2 := pb2
    refine wpAny_pure (wpAny_pure ?_)
    show wpAny _ _ (newTuple [x1, x2] >>= _) _ _ ⟨p2, g, d, tk2, os⟩
    refine wpAny_bind (wpAny_newTuple (wpAny_pure ⟨_, rfl, ?_⟩))
    have sz : p2.objs.size = hp.objs.size := by rw [pb2.1, pb1.1, sq.1]
    have kp : ∀ c o, c ≠ z → c ≠ i1 → c ≠ i2 → hp.get? c = some o → p2.get? c = some o := fun c o cz c1 c2 e =>
      pb2.extBut _ _ c2 (pb1.extBut _ _ c1 (sq.extBut _ _ cz e))
    have zz : ZG p2 z TI TO f0 f1' := pb2.extBut _ _ S.zi2 (pb1.extBut _ _ S.zi1 zq)
    have up : ∀ c o, p2.get? c = some o → (p2.push { cls := .type "tuple", data := .seq #[x1, x2] }).get? c = some o := fun c o e => Heap.get?_push_of_some _ e
    show Q (.ref p2.objs.size) ⟨p2.push { cls := .type "tuple", data := .seq #[x1, x2] }, g, d, tk2, os⟩
    have tt : IsTupOf2 (p2.push { cls := .type "tuple", data := .seq #[x1, x2] }) p2.objs.size x1 x2 := Heap.get?_push_size _ rfl
    have sz' : (p2.push { cls := .type "tuple", data := .seq #[x1, x2] }).objs.size = p2.objs.size + 1 := by rw [Heap.size_push]
    rw [sz] at tt sz'
    rw [sz]
    exact hQ x1 x2 _ tk2 f0 f1' hx1 hx2 hf (up _ _ zz) ⟨_, _, up _ _ (kp _ _ S.TOz S.Ti1 S.Ti2 hTO)⟩ (D1.frame _ _ _ (D1.over sn1 pb2 S.sep2_1) fun b hb o e => up b o e) (D2.frame _ _ _ sn2 fun b hb o e => up b o e) tt sz' fun c o cz cT c1 c2 e => up c o (kp c o cz c1 c2 e)
theorem not_zip {h : Heap} {e : Addr} {o : Obj} {f0 : Value} {f1 : Bool} (hz : ZG h z TI TO f0 f1) (ho : h.get? e = some o) (hc : o.cls = .type "StopIteration") : e ≠ z := fun q => by
  subst q
  rw [hz] at ho
  cases ho
  exact absurd (Value.type.inj hc) (by decide)
theorem nextG_done {f0 : Value} {f1 : Bool} {Q : PySem.Fin → Shared → Prop} (S : ZipSep2 z TI TO i1 i2 fp1 fp2) (D1 : Draws prog w A i1 fp1 n1 P1 St1) (D2 : Draws prog w A i2 fp2 n2 P2 St2)
    (hz : ZG s.heap z TI TO f0 f1) (hf : Free0 f0) (hTI : IsTupOf2 s.heap TI (.ref i1) (.ref i2)) (hTO : IsTupOf2 s.heap TO a1 a2) (st1 : St1 i s.heap) (st2 : St2 i s.heap) (lt : i = n1 ∨ i < n1 ∧ i = n2)
    (hE : ∀ h' e tk, (∃ o, h'.get? e = some o ∧ o.cls = .type "StopIteration") → (∀ c o, c ≠ z → c ≠ TO → c ≠ i1 → c ≠ i2 → s.heap.get? c = some o → h'.get? c = some o) → E (.ref e) { s with heap := h', toks := tk }) :
    wpAny (model prog w) A (Builtin.«zip.__next__» ⟨[.ref z], []⟩) Q E s := by
  obtain ⟨hp, g, d, tk0, os⟩ := s
  show wpAny _ _ (field (.ref z) 2 >>= _) _ _ _
  refine wpAny_bind (wpAny_field hz rfl (x := .bool false) rfl ?_)
  show wpAny _ _ (field (.ref z) 3 >>= _) _ _ _
  refine wpAny_bind (wpAny_field hz rfl (x := .ref TI) rfl (wpAny_bind (wpAny_seqItems hTI rfl ?_)))
  show wpAny _ _ (Builtin.SmallTypes.ownedTupleIsFree (.ref z) >>= _) _ _ _
  refine wpAny_bind (isFree hz hf ?_ fun q0 f1' zq sq => ?_)
  · simp only [if_true]
    refine wpAny_bind (wpAny_rule (wpAny_bind (wpAny_field hz rfl (x := .ref TO) rfl ?_)))
    refine wpAny_bind (wpAny_setField_rec hz (by simp) fun k0 zz0 sb0 => ?_)
    replace zz0 : ZG k0 z TI TO .ellipsis f1 := zz0
    replace sb0 : Heap.SameBut z hp k0 := sb0
    refine wpAny_bind ?_
    simp only [List.zipIdx_cons, List.zipIdx_nil, List.forIn_cons, List.forIn_nil]
    refine wpAny_bind (wpAny_bind (wpAny_onRaise ?_))
    show wpAny _ _ (Builtin.SmallTypes.nextOf (.ref i1) >>= _) _ _ ⟨k0, g, d, tk0, os⟩
    rcases lt with rfl | ⟨lt1, rfl⟩
    · refine wpAny_bind (D1.done _ _ _ (D1.over st1 sb0 S.zf1) fun p1 e pb1 he => ?_)
      replace pb1 : Heap.ExtBut i1 k0 p1 := pb1
      have zz1 : ZG p1 z TI TO .ellipsis f1 := pb1 _ _ S.zi1 zz0
      refine wpAny_setField_rec (s := ⟨p1, g, d, tk0, os⟩) zz1 (by simp) fun k1 zz2 sb1 => ?_
      replace sb1 : Heap.SameBut z p1 k1 := sb1
      obtain ⟨o, ho, hc⟩ := he
      exact hE k1 e tk0 ⟨o, sb1.extBut _ _ (not_zip zz1 ho hc) ho, hc⟩ (fun c o cz cT c1 c2 q => sb1.extBut _ _ cz (pb1 c o c1 (sb0.extBut _ _ cz q)))
    · refine wpAny_bind (D1.item i _ _ _ lt1 (D1.over st1 sb0 S.zf1) fun x1 p1 tk1 hx1 sn1 pb1 => wpAny_pure ?_)
      replace pb1 : Heap.SameBut i1 k0 p1 := pb1
      have u1 : IsTupOf2 p1 TO a1 a2 := pb1.extBut _ _ S.Ti1 (sb0.extBut _ _ S.TOz hTO)
      refine wpAny_bind (wpAny_seqItems (s := ⟨p1, g, d, tk1, os⟩) u1 rfl (wpAny_bind (updateSeq_IsTupOf2 (s := ⟨p1, g, d, tk1, os⟩) u1 fun k1 tt1 sb1 => ?_)))
      replace tt1 : IsTupOf2 k1 TO x1 a2 := tt1
      replace sb1 : Heap.SameBut TO p1 k1 := sb1
      refine wpAny_bind (wpAny_letGo (wpAny_pure (wpAny_bind (wpAny_bind (wpAny_onRaise ?_)))))
      show wpAny _ _ (Builtin.SmallTypes.nextOf (.ref i2) >>= _) _ _ ⟨k1, g, d, tk1, os⟩
      refine wpAny_bind (D2.done _ _ _ (D2.over (D2.over (D2.over st2 sb0 S.zf2) pb1 S.sep1_2) sb1 S.Tf2) fun p2 e pb2 he => ?_)
      replace pb2 : Heap.ExtBut i2 k1 p2 := pb2
      have zz1 : ZG p2 z TI TO .ellipsis f1 := pb2 _ _ S.zi2 (sb1.extBut _ _ S.TOz.symm (pb1.extBut _ _ S.zi1 zz0))
      refine wpAny_setField_rec (s := ⟨p2, g, d, tk1, os⟩) zz1 (by simp) fun k2 zz2 sb2 => ?_
      replace sb2 : Heap.SameBut z p2 k2 := sb2
      obtain ⟨o, ho, hc⟩ := he
      exact hE k2 e tk1 ⟨o, sb2.extBut _ _ (not_zip zz1 ho hc) ho, hc⟩ (fun c o cz cT c1 c2 q => sb2.extBut _ _ cz (pb2 c o c2 (sb1.extBut _ _ cT (pb1.extBut _ _ c1 (sb0.extBut _ _ cz q)))))
  · replace sq : Heap.SameBut z hp q0 := sq
    simp only [Bool.false_eq_true, if_false]
    refine wpAny_bind ?_
    simp only [← Array.forIn_toList, List.forIn_cons, List.forIn_nil]
    refine wpAny_bind (wpAny_bind (wpAny_holding ?_))
    show wpAny _ _ (Builtin.SmallTypes.nextOf (.ref i1) >>= _) _ _ ⟨q0, g, d, tk0, os⟩
    rcases lt with rfl | ⟨lt1, rfl⟩
    · refine wpAny_bind (D1.done _ _ _ (D1.over st1 sq S.zf1) fun p1 e pb1 he => ?_)
      exact hE p1 e tk0 he (fun c o cz cT c1 c2 q => pb1 c o c1 (sq.extBut _ _ cz q))
    · refine wpAny_bind (D1.item i _ _ _ lt1 (D1.over st1 sq S.zf1) fun x1 p1 tk1 hx1 sn1 pb1 => wpAny_pure ?_)
      replace pb1 : Heap.SameBut i1 q0 p1 := pb1
      refine wpAny_pure (wpAny_bind (wpAny_bind (wpAny_holding ?_)))
      show wpAny _ _ (Builtin.SmallTypes.nextOf (.ref i2) >>= _) _ _ ⟨p1, g, d, tk1, os⟩
      refine wpAny_bind (D2.done _ _ _ (D2.over (D2.over st2 sq S.zf2) pb1 S.sep1_2) fun p2 e pb2 he => ?_)
      exact hE p2 e tk1 he (fun c o cz cT c1 c2 q => pb2 c o c2 (pb1.extBut _ _ c1 (sq.extBut _ _ cz q)))
/-- the step of an enumerate, whatever lies below it -/
theorem enumG_item {e it : Addr} {c : Int} {old : Value} {Inn : Value → Heap → Tok → Prop} {Q : Value → Shared → Prop} (he : IsEnum s.heap e it c old)
    (inner : ∀ Q : Value → Shared → Prop, (∀ x k tk, Inn x k tk → Q x { s with heap := k, toks := tk }) → wpAny (model prog w) A (Builtin.SmallTypes.nextOf (.ref it)) Q E s)
    (ki : ∀ x k tk, Inn x k tk → IsEnum k e it c old)
    (hQ : ∀ x k h' tk, Inn x k tk → IsEnumOut h' e it (c + 1) x k.objs.size → h'.get? k.objs.size = some { cls := .type "tuple", data := .seq #[.int c tk, x] } → h'.objs.size = k.objs.size + 1 →
      (∀ b o, b ≠ e → k.get? b = some o → h'.get? b = some o) → Q (.ref k.objs.size) { s with heap := h', toks := tk + 1 }) :
    wpAny (model prog w) A (Builtin.«enumerate.__next__» ⟨[.ref e], []⟩) (fun fin s' => ∃ v, fin = .done (.ret v) ∧ Q v s') E s := by
  obtain ⟨hp, g, d, tk0, os⟩ := s
  show wpAny _ _ (field (.ref e) 2 >>= _) _ _ _
  refine wpAny_bind (wpAny_field he rfl (x := .ref it) rfl ?_)
  refine wpAny_bind (inner _ fun x k1 tk hI => ?_)
  have e1 : IsEnum k1 e it c old := ki x k1 tk hI
  show wpAny _ _ (field (.ref e) 3 >>= _) _ _ ⟨k1, g, d, tk, os⟩
  refine wpAny_bind (wpAny_field e1 rfl (x := rawInt c) rfl ?_)
  show wpAny _ _ (field (.ref e) 4 >>= _) _ _ ⟨k1, g, d, tk, os⟩
  refine wpAny_bind (wpAny_field e1 rfl (x := .none) rfl ?_)
  show wpAny _ _ (mkInt c >>= _) _ _ ⟨k1, g, d, tk, os⟩
  refine wpAny_bind (wpAny_mkInt ?_)
  show wpAny _ _ (setField (.ref e) 3 (rawInt (c + 1)) >>= _) _ _ ⟨k1, g, d, tk + 1, os⟩
  refine wpAny_bind (wpAny_setField_rec e1 (by simp) fun k2 e2 b2 => ?_)
  replace b2 : Heap.SameBut e k1 k2 := b2
  replace e2 : IsEnum k2 e it (c + 1) old := e2
  show wpAny _ _ (setField (.ref e) 4 .none >>= _) _ _ ⟨k2, g, d, tk + 1, os⟩
  refine wpAny_bind (wpAny_setField_rec e2 (by simp) fun k3 e3 b3 => ?_)
  replace b3 : Heap.SameBut e k2 k3 := b3
  replace e3 : IsEnum k3 e it (c + 1) old := e3
  show wpAny _ _ (newTuple [.int c tk, x] >>= _) _ _ ⟨k3, g, d, tk + 1, os⟩
  refine wpAny_bind (wpAny_newTuple ?_)
  have e4 : IsEnum (k3.push { cls := .type "tuple", data := .seq #[.int c tk, x] }) e it (c + 1) old := Heap.get?_push_of_some _ e3
  generalize hh4 : k3.push { cls := .type "tuple", data := .seq #[.int c tk, x] } = k4 at e4
  have hsz : k3.objs.size = k1.objs.size := by rw [b3.1, b2.1]
  have hel : e < k1.objs.size := Heap.lt_size e1
  have t4 : k4.get? k1.objs.size = some { cls := .type "tuple", data := .seq #[.int c tk, x] } := by rw [← hh4, ← hsz]; exact Heap.get?_push_size _ rfl
  have z4 : k4.objs.size = k1.objs.size + 1 := by rw [← hh4, Heap.size_push, hsz]
  have q4 : ∀ b o, b ≠ e → k1.get? b = some o → k4.get? b = some o := fun b o be hb => by
    rw [← hh4]; exact Heap.get?_push_of_some _ (b3.extBut b o be (b2.extBut b o be hb))
  show wpAny _ _ (Builtin.SmallTypes.ownedTupleIsFree (.ref e) >>= _) _ _ ⟨k4, g, d, tk + 1, os⟩
  rw [hsz]
  clear hh4 e3 b3 e2 b2 hsz k3 k2
  refine wpAny_bind ?_
  unfold Builtin.SmallTypes.ownedTupleIsFree
  refine wpAny_bind (wpAny_field e4 rfl (x := .none) rfl (wpAny_pure ?_))
  simp only [if_true]
  refine wpAny_bind (wpAny_rule ?_)
  refine wpAny_bind (wpAny_field e4 rfl (x := old) rfl ?_)
  refine wpAny_bind (wpAny_setField_rec e4 (by simp) fun k5 e5 b5 => ?_)
  replace b5 : Heap.SameBut e k4 k5 := b5
  replace e5 : IsEnum k5 e it (c + 1) x := e5
  show wpAny _ _ (Builtin.SmallTypes.ownedTupleHandOut (.ref e) (.ref k1.objs.size) >>= _) _ _ ⟨k5, g, d, tk + 1, os⟩
  refine wpAny_bind ?_
  unfold Builtin.SmallTypes.ownedTupleHandOut
  refine wpAny_bind (wpAny_setField_rec e5 (by simp) fun k6 e6 b6 => ?_)
  replace b6 : Heap.SameBut e k5 k6 := b6
  replace e6 : IsEnumOut k6 e it (c + 1) x k1.objs.size := e6
  refine wpAny_setField_rec e6 (by simp) fun k7 e7 b7 => ?_
  replace b7 : Heap.SameBut e k6 k7 := b7
  replace e7 : IsEnumOut k7 e it (c + 1) x k1.objs.size := e7
  refine wpAny_bind (wpAny_letGo (wpAny_pure ⟨_, rfl, hQ x k1 k7 tk hI e7 ?_ ?_ ?_⟩))
  · exact b7.extBut _ _ (Nat.ne_of_gt hel) (b6.extBut _ _ (Nat.ne_of_gt hel) (b5.extBut _ _ (Nat.ne_of_gt hel) t4))
  · rw [b7.1, b6.1, b5.1, z4]
  · exact fun b o be hb => b7.extBut b o be (b6.extBut b o be (b5.extBut b o be (q4 b o be hb)))
theorem nextOfG_item {f0 : Value} {f1 : Bool} {Q : Value → Shared → Prop} (S : ZipSep2 z TI TO i1 i2 fp1 fp2) (D1 : Draws prog w A.in1 i1 fp1 n1 P1 St1) (D2 : Draws prog w A.in1 i2 fp2 n2 P2 St2)
    (hz : ZG s.heap z TI TO f0 f1) (hf : Free0 f0) (hTI : IsTupOf2 s.heap TI (.ref i1) (.ref i2)) (hTO : IsTupOf2 s.heap TO a1 a2) (st1 : St1 i s.heap) (st2 : St2 i s.heap) (lt1 : i < n1) (lt2 : i < n2)
    (hQ : ∀ x1 x2 h' tk f0' f1', P1 i x1 → P2 i x2 → Free0 f0' → ZG h' z TI TO f0' f1' → (∃ a b, IsTupOf2 h' TO a b) → St1 (i + 1) h' → St2 (i + 1) h' → IsTupOf2 h' s.heap.objs.size x1 x2 → h'.objs.size = s.heap.objs.size + 1 →
      (∀ c o, c ≠ z → c ≠ TO → c ≠ i1 → c ≠ i2 → s.heap.get? c = some o → h'.get? c = some o) → Q (.ref s.heap.objs.size) { s with heap := h', toks := tk }) :
    wpAny (model prog w) A (Builtin.SmallTypes.nextOf (.ref z)) Q E s := by
  have ty : s.TypeIs (.ref z) "zip" := ⟨_, hz, rfl⟩
  unfold Builtin.SmallTypes.nextOf
  exact wpAny_bind (wpAny_callSpecial?_slot (name := Str.ofString "__next__") ty F.slot_zip_next (wpAny_call_entry F.slot_zip_next ty F.entry_zip_next
      (nextG_item S D1 D2 hz hf hTI hTO st1 st2 lt1 lt2 fun x1 x2 h' tk g0 g1 y1 y2 y3 y4 y5 y6 y7 y8 y9 y10 => wpAny_pure (hQ x1 x2 h' tk g0 g1 y1 y2 y3 y4 y5 y6 y7 y8 y9 y10)) (F.args_zip_next_1 _)))
theorem nextOfG_done {f0 : Value} {f1 : Bool} {Q : Value → Shared → Prop} (S : ZipSep2 z TI TO i1 i2 fp1 fp2) (D1 : Draws prog w A.in1 i1 fp1 n1 P1 St1) (D2 : Draws prog w A.in1 i2 fp2 n2 P2 St2)
    (hz : ZG s.heap z TI TO f0 f1) (hf : Free0 f0) (hTI : IsTupOf2 s.heap TI (.ref i1) (.ref i2)) (hTO : IsTupOf2 s.heap TO a1 a2) (st1 : St1 i s.heap) (st2 : St2 i s.heap) (lt : i = n1 ∨ i < n1 ∧ i = n2)
    (hE : ∀ h' e tk, (∃ o, h'.get? e = some o ∧ o.cls = .type "StopIteration") → (∀ c o, c ≠ z → c ≠ TO → c ≠ i1 → c ≠ i2 → s.heap.get? c = some o → h'.get? c = some o) → E (.ref e) { s with heap := h', toks := tk }) :
    wpAny (model prog w) A (Builtin.SmallTypes.nextOf (.ref z)) Q E s := by
  have ty : s.TypeIs (.ref z) "zip" := ⟨_, hz, rfl⟩
  unfold Builtin.SmallTypes.nextOf
  exact wpAny_bind (wpAny_callSpecial?_slot (name := Str.ofString "__next__") ty F.slot_zip_next (wpAny_call_entry F.slot_zip_next ty F.entry_zip_next
      (nextG_done S D1 D2 hz hf hTI hTO st1 st2 lt hE) (F.args_zip_next_1 _)))
theorem pyNextEZ_item {f0 : Value} {f1 : Bool} {e : Addr} {c : Int} {old : Value} {Q : Option Value → Shared → Prop} (S : ZipSep2 z TI TO i1 i2 fp1 fp2) (D1 : Draws prog w A.in1.in1 i1 fp1 n1 P1 St1) (D2 : Draws prog w A.in1.in1 i2 fp2 n2 P2 St2)
    (he : IsEnum s.heap e z c old) (ez : e ≠ z) (eO : e ≠ TO) (e1 : e ≠ i1) (e2 : e ≠ i2)
    (hz : ZG s.heap z TI TO f0 f1) (hf : Free0 f0) (hTI : IsTupOf2 s.heap TI (.ref i1) (.ref i2)) (hTO : IsTupOf2 s.heap TO a1 a2) (st1 : St1 i s.heap) (st2 : St2 i s.heap) (lt1 : i < n1) (lt2 : i < n2)
    (hQ : ∀ x1 x2 k h' tk f0' f1', P1 i x1 → P2 i x2 → Free0 f0' → ZG k z TI TO f0' f1' → (∃ a b, IsTupOf2 k TO a b) → St1 (i + 1) k → St2 (i + 1) k → IsTupOf2 k s.heap.objs.size x1 x2 → k.objs.size = s.heap.objs.size + 1 →
      (∀ c o, c ≠ z → c ≠ TO → c ≠ i1 → c ≠ i2 → s.heap.get? c = some o → k.get? c = some o) →
      IsEnumOut h' e z (c + 1) (.ref s.heap.objs.size) (s.heap.objs.size + 1) → h'.get? (s.heap.objs.size + 1) = some { cls := .type "tuple", data := .seq #[.int c tk, .ref s.heap.objs.size] } →
      (∀ b o, b ≠ e → k.get? b = some o → h'.get? b = some o) → Q (some (.ref (s.heap.objs.size + 1))) { s with heap := h', toks := tk + 1 }) :
    wpAny (model prog w) A (pyNext (.ref e)) Q E s := by
  have ty : s.TypeIs (.ref e) "enumerate" := ⟨_, he, rfl⟩
  unfold pyNext
  refine wpAny_bind (wpAny_attempt (wpAny_callSpecial?_slot (name := Str.ofString "__next__") ty F.slot_enumerate_next
    (wpAny_call_entry F.slot_enumerate_next ty F.entry_enumerate_next
      (enumG_item (Inn := fun x k tk => ∃ x1 x2 f0' f1', x = .ref s.heap.objs.size ∧ P1 i x1 ∧ P2 i x2 ∧ Free0 f0' ∧ ZG k z TI TO f0' f1' ∧ (∃ a b, IsTupOf2 k TO a b) ∧ St1 (i + 1) k ∧ St2 (i + 1) k ∧ IsTupOf2 k s.heap.objs.size x1 x2 ∧ k.objs.size = s.heap.objs.size + 1 ∧
        (∀ c o, c ≠ z → c ≠ TO → c ≠ i1 → c ≠ i2 → s.heap.get? c = some o → k.get? c = some o)) he ?_ ?_ ?_) (F.args_enumerate_next_1 _))))
  · intro Q' hQ'
    exact nextOfG_item S D1 D2 hz hf hTI hTO st1 st2 lt1 lt2 fun x1 x2 h' tk g0 g1 y1 y2 y3 y4 y5 y6 y7 y8 y9 y10 => hQ' _ _ _ ⟨x1, x2, g0, g1, rfl, y1, y2, y3, y4, y5, y6, y7, y8, y9, y10⟩
  · rintro x k tk ⟨x1, x2, g0, g1, rfl, y1, y2, y3, y4, y5, y6, y7, y8, y9, y10⟩
    exact y10 _ _ ez eO e1 e2 he
  · rintro x k h' tk ⟨x1, x2, g0, g1, rfl, y1, y2, y3, y4, y5, y6, y7, y8, y9, y10⟩ w1 w2 w3 w4
    rw [y9] at w1 w2 ⊢
    exact wpAny_pure (hQ x1 x2 k h' tk g0 g1 y1 y2 y3 y4 y5 y6 y7 y8 y9 y10 w1 w2 w4)
theorem pyNextEZ_end {f0 : Value} {f1 : Bool} {e : Addr} {c : Int} {old : Value} {Q : Option Value → Shared → Prop} (S : ZipSep2 z TI TO i1 i2 fp1 fp2) (D1 : Draws prog w A.in1.in1 i1 fp1 n1 P1 St1) (D2 : Draws prog w A.in1.in1 i2 fp2 n2 P2 St2)
    (he : IsEnum s.heap e z c old)
    (hz : ZG s.heap z TI TO f0 f1) (hf : Free0 f0) (hTI : IsTupOf2 s.heap TI (.ref i1) (.ref i2)) (hTO : IsTupOf2 s.heap TO a1 a2) (st1 : St1 i s.heap) (st2 : St2 i s.heap) (lt : i = n1 ∨ i < n1 ∧ i = n2)
    (hQ : ∀ h' tk, (∀ c o, c ≠ z → c ≠ TO → c ≠ i1 → c ≠ i2 → s.heap.get? c = some o → h'.get? c = some o) → Q none { s with heap := h', toks := tk }) :
    wpAny (model prog w) A (pyNext (.ref e)) Q E s := by
  have ty : s.TypeIs (.ref e) "enumerate" := ⟨_, he, rfl⟩
  unfold pyNext
  refine wpAny_bind (wpAny_attempt (wpAny_callSpecial?_slot (name := Str.ofString "__next__") ty F.slot_enumerate_next
    (wpAny_call_entry F.slot_enumerate_next ty F.entry_enumerate_next ?_ (F.args_enumerate_next_1 _))))
  show wpAny _ _ (field (.ref e) 2 >>= _) _ _ _
  refine wpAny_bind (wpAny_field he rfl (x := .ref z) rfl ?_)
  refine wpAny_bind (nextOfG_done S D1 D2 hz hf hTI hTO st1 st2 lt fun h' x tk hx hk => ?_)
  obtain ⟨o, ho, hc⟩ := hx
  refine wpAny_bind (wpAny_isInstance (T := "StopIteration") (b := true) ⟨o, ho, hc⟩ isSubtype_stop ?_)
  exact wpAny_pure (hQ _ _ hk)
theorem meetsEZ {z TI TO : Addr} :
    Meets (Builtin.«enumerate.__new__» ⟨[.type "enumerate", .ref z], []⟩) (fun _ R s => IsZip s.heap z TI TO .none ∧ R (.ok (.ret (.ref s.heap.objs.size)))
      { s with heap := s.heap.push { cls := .type "enumerate", data := .fields #[.none, .bool false, .ref z, rawInt 0, .none, .none] } }) :=
  .of_wp fun prog w A R s h => by
    obtain ⟨hp, g, d, tk, os⟩ := s; obtain ⟨h1, h⟩ := h
    have hsub := sub_enumerate
    have q1 : ∀ {A' : Around} {E : Value → Shared → Prop} {Q : Value → Shared → Prop}, Q (.ref z) ⟨hp, g, d, tk, os⟩ → wpAny (model prog w) A' (pyIter (.ref z)) Q E ⟨hp, g, d, tk, os⟩ := fun q => wpAny_pyIter_zip h1 q
    wp_walk using q1
    refine wpAny_stack_any fun st => wpAny_pure ?_
    split
    · rename_i c _ _ _ _ _
      cases (c == Value.type "enumerate") <;> (wp_walk using q1; exact ⟨_, rfl, h⟩)
    · wp_walk using q1
      exact ⟨_, rfl, h⟩
theorem beginsEZ {Q : Value → Shared → Prop} (h1 : IsZip s.heap z TI TO .none)
    (h : ∀ h', IsEnum h' s.heap.objs.size z 0 .none → (∀ b o, s.heap.get? b = some o → h'.get? b = some o) → Q (.ref s.heap.objs.size) { s with heap := h' }) :
    wpAny (model prog w) A (call (.type "enumerate") [.ref z]) Q E s := by
  refine callType_new F.called_enumerate (by decide) (F.typeCall_enumerate_1 _) (F.newCall_enumerate_1 _) (fun obj => F.args_object_init_2 obj _) F.entry_enumerate_new (meetsEZ (z := z) (TI := TI) (TO := TO)) ⟨h1, ?_⟩
  have he := Heap.get?_push_size s.heap (o := { cls := .type "enumerate", data := .fields #[.none, .bool false, .ref z, rawInt 0, .none, .none] }) rfl
  exact ⟨⟨_, he, rfl⟩, h _ he fun b o x => Heap.get?_push_of_some _ x⟩
end
end EvZ

set_option Elab.async false
set_option linter.all false
set_option maxRecDepth 100000
set_option maxHeartbeats 1000000
/-! enumerate(zip(a, b)) -/
namespace Ev
open PySem L2
open EvZ (ZG Free0)
def ItEZ (K : PySem.W.Frag) (ta tc : Bool) (a c : Addr) : It :=
  ⟨fun i H => ∃ (xs ys : List V) (x y : V), SqB K H ta a xs ∧ SqB K H tc c ys ∧ xs[i]? = some x ∧ ys[i]? = some y,
   fun i H v H' => ∃ T T' x y, v = .ref T' ∧ H T = none ∧ upd H T (.tup [x, y]) T' = none ∧ H' = upd (upd H T (.tup [x, y])) T' (.tup [.int (i : Nat), .ref T]) ∧ (∀ xs, SqB K H ta a xs → xs[i]? = some x) ∧ ∀ ys, SqB K H tc c ys → ys[i]? = some y,
   fun i H => ∃ xs ys : List V, SqB K H ta a xs ∧ SqB K H tc c ys ∧ i ≤ xs.length ∧ i ≤ ys.length ∧ (i = xs.length ∨ i = ys.length)⟩
theorem turn_EZ {P : Program} {w : World} {K : PySem.W.Frag} {elts : List Expr} {kk : Nat} {tpos : Pos} {ta tc : Bool} {a c e z TI TO i1 i2 : Addr} (S : ZipSep2 z TI TO i1 i2 [i1, a] [i2, c]) (na : a ≠ i1) (nc : c ≠ i2)
    (ez : e ≠ z) (eI : e ≠ TI) (eO : e ≠ TO) (e1 : e ≠ i1) (e2 : e ≠ i2) :
    Turn P w K (.Tuple elts kk tpos) (ItEZ K ta tc a c) [e, z, TI, TO, i1, i2] e (fun i h => (∃ old, IsEnum h e z ((i : Nat) : Int) old) ∧ (∃ f0 f1, Free0 f0 ∧ ZG h z TI TO f0 f1) ∧ IsTupOf2 h TI (.ref i1) (.ref i2) ∧ (∃ x y, IsTupOf2 h TO x y) ∧ ItB h ta i1 a i ∧ ItB h tc i2 c i) where
  mem := by simp
  obj := fun i h st q hc => by
    obtain ⟨⟨old, he⟩, ⟨f0, f1, hf, hz⟩, hTI, ⟨x, y, hTO⟩, t1, t2⟩ := st
    have e' : q = e ∨ q = z ∨ q = TI ∨ q = TO ∨ q = i1 ∨ q = i2 := by simpa using hc
    rcases e' with rfl | rfl | rfl | rfl | rfl | rfl
    · exact ⟨_, he, fun v q => nomatch q⟩
    · exact ⟨_, hz, fun v q => nomatch q⟩
    · exact ⟨_, hTI, fun v q => nomatch q⟩
    · exact ⟨_, hTO, fun v q => nomatch q⟩
    · exact itB_obj t1
    · exact itB_obj t2
  keep := fun i h h' st k => by
    obtain ⟨⟨old, he⟩, ⟨f0, f1, hf, hz⟩, hTI, ⟨x, y, hTO⟩, t1, t2⟩ := st
    exact ⟨⟨old, k e (by simp) _ he⟩, ⟨f0, f1, hf, k z (by simp) _ hz⟩, k TI (by simp) _ hTI, ⟨x, y, k TO (by simp) _ hTO⟩, itB_at t1 fun o q => k i1 (by simp) o q, itB_at t2 fun o q => k i2 (by simp) o q⟩
  item := by
    intro X hP hw hK hc i pins s σ H E I hf st hg
    subst hP hw hK
    obtain ⟨⟨old, he⟩, ⟨f0, f1, hfr, hz⟩, hTI, ⟨x0, y0, hTO⟩, t1, t2⟩ := st
    obtain ⟨xs, ys, x, y, hqx, hqy, hx, hy⟩ := hg
    obtain ⟨its, rv, p⟩ := seB I hqx
    obtain ⟨its2, rv2, p2⟩ := seB I hqy
    obtain ⟨u, hu, ru⟩ := rv.get hx
    obtain ⟨u2, hu2, ru2⟩ := rv2.get hy
    have hh : X.A.in1.in1.handled = none := I.ok.hd hc
    have l1 : i < its.toArray.size := by simpa using (List.getElem?_eq_some_iff.mp hu).1
    have l2 : i < its2.toArray.size := by simpa using (List.getElem?_eq_some_iff.mp hu2).1
    have hel : e < s.heap.objs.size := Heap.lt_size he
    have flt : ∀ q ∈ [e, z, TI, TO, i1, i2], q < s.heap.objs.size := fun q hq => by
      have e' : q = e ∨ q = z ∨ q = TI ∨ q = TO ∨ q = i1 ∨ q = i2 := by simpa using hq
      rcases e' with rfl | rfl | rfl | rfl | rfl | rfl
      · exact hel
      · exact Heap.lt_size hz
      · exact Heap.lt_size hTI
      · exact Heap.lt_size hTO
      · obtain ⟨_, e1, _⟩ := itB_obj t1; exact Heap.lt_size e1
      · obtain ⟨_, e1, _⟩ := itB_obj t2; exact Heap.lt_size e1
    refine EvZ.pyNextEZ_item S (drB hh ta i1 a na its.toArray) (drB hh tc i2 c nc its2.toArray) he ez eO e1 e2 hz hfr hTI hTO ⟨t1, p⟩ ⟨t2, p2⟩ l1 l2 fun v1 v2 k h' tk g0 g1 y1 y2 y3 y4 y5 y6 y7 y8 y9 y10 w1 w2 w3 => ?_
    obtain rfl : v1 = u := by simpa [hu] using y1.symm
    obtain rfl : v2 = u2 := by simpa [hu2] using y2.symm
    refine ⟨_, rfl, wpAny_letOwnedTupleGo_enum (s := { s with heap := h', toks := tk + 1 }) w1 fun h'' he' sb => ?_⟩
    have up : ∀ b o, b ≠ e → k.get? b = some o → h''.get? b = some o := fun b o hb q => (sb.2 b hb).trans (w3 b o hb q)
    have tT1 : k.get? s.heap.objs.size = some { cls := .type "tuple", data := .seq #[v1, v2] } := y8
    have tT2 : h''.get? (s.heap.objs.size + 1) = some { cls := .type "tuple", data := .seq #[.int i tk, .ref s.heap.objs.size] } := (sb.2 _ (Nat.ne_of_gt (Nat.lt_succ_of_lt hel))).trans w2
    have new1 : ObjOk X.prog X.w (L2.upd H s.heap.objs.size (.tup [x, y])) k s.heap.objs.size (.tup [x, y]) := ⟨by show 2 ≤ sizeLine; decide, [v1, v2], .cons ru (.cons ru2 .nil), ⟨_, tT1, rfl, _, rfl⟩⟩
    have I1 : Inv X pins σ (L2.upd H s.heap.objs.size (.tup [x, y])) { s with heap := k, toks := tk } :=
      I.turnedNew (t' := tk) (ch := [z, TI, TO, i1, i2]) (fun c o hb q => y10 c o (fun q' => hb (by simp [q'])) (fun q' => hb (by simp [q'])) (fun q' => hb (by simp [q'])) (fun q' => hb (by simp [q'])) q) (fun b hb => hf b (List.mem_cons_of_mem _ hb)) (Nat.le_refl _) new1
    have new2 : ObjOk X.prog X.w (L2.upd (L2.upd H s.heap.objs.size (.tup [x, y])) (s.heap.objs.size + 1) (.tup [.int (i : Nat), .ref s.heap.objs.size])) h'' (s.heap.objs.size + 1) (.tup [.int (i : Nat), .ref s.heap.objs.size]) :=
      ⟨by show 2 ≤ sizeLine; decide, [.int i tk, .ref s.heap.objs.size], .cons ⟨_, rfl⟩ (.cons rfl .nil), ⟨_, tT2, rfl, _, rfl⟩⟩
    have fe : FpOk X pins (L2.upd H s.heap.objs.size (.tup [x, y])) e := by
      obtain ⟨f0, f1, f2, f3, f4, f5⟩ := hf e (by simp)
      exact ⟨by rw [upd_ne (Nat.ne_of_lt hel)]; exact f0, f1, f2, f3, f4, f5⟩
    have I2 : Inv X pins σ (L2.upd (L2.upd H s.heap.objs.size (.tup [x, y])) (s.heap.objs.size + 1) (.tup [.int (i : Nat), .ref s.heap.objs.size])) { s with heap := h'', toks := tk + 1 } :=
      I1.turnedNew (t' := tk + 1) (ch := [e]) (fun c o hb q => up c o (fun q' => hb (by simp [q'])) q) (fun b hb => by rw [List.mem_singleton.mp hb]; exact fe) (by show k.objs.size ≤ _; rw [y9]; exact Nat.le_refl _) new2
    have hN1 : L2.upd H s.heap.objs.size (.tup [x, y]) (s.heap.objs.size + 1) = none := by rw [upd_ne (Nat.succ_ne_self _)]; exact I.hok.fresh (Nat.le_succ _)
    refine ⟨.ref (s.heap.objs.size + 1), _, I2, rfl, ⟨_, _, x, y, rfl, I.hok.fresh (Nat.le_refl _), hN1, rfl, fun l hl => by rw [seB_inj I hl hqx]; exact hx, fun l hl => by rw [seB_inj I hl hqy]; exact hy⟩, ⟨⟨.ref s.heap.objs.size, ?_⟩, ⟨g0, g1, y3, up _ _ ez.symm y4⟩, ?_, ?_, ?_, ?_⟩, fun q hq => ?_⟩
    · have e1 : ((i + 1 : Nat) : Int) = (i : Int) + 1 := by omega
      rw [e1]; exact he'
    · exact up _ _ eI.symm (y10 _ _ S.TIz S.TITO S.TIi1 S.TIi2 hTI)
    · obtain ⟨a', b', q⟩ := y5
      exact ⟨a', b', up _ _ eO.symm q⟩
    · exact itB_at y6.1 fun o q => up _ _ e1.symm q
    · exact itB_at y7.1 fun o q => up _ _ e2.symm q
    · have hlt := flt q hq
      rw [upd_ne (Nat.ne_of_lt (Nat.lt_succ_of_lt hlt)), upd_ne (Nat.ne_of_lt hlt)]
      exact (hf q hq).1
  done := by
    intro X hP hw hK hc i pins s σ H E I hf st hg
    subst hP hw hK
    obtain ⟨⟨old, he⟩, ⟨f0, f1, hfr, hz⟩, hTI, ⟨x0, y0, hTO⟩, t1, t2⟩ := st
    obtain ⟨xs, ys, hqx, hqy, l1, l2, le⟩ := hg
    obtain ⟨its, rv, p⟩ := seB I hqx
    obtain ⟨its2, rv2, p2⟩ := seB I hqy
    have hh : X.A.in1.in1.handled = none := I.ok.hd hc
    have n1 : its.toArray.size = xs.length := by simp [rv.length]
    have n2 : its2.toArray.size = ys.length := by simp [rv2.length]
    exact EvZ.pyNextEZ_end S (drB hh ta i1 a na its.toArray) (drB hh tc i2 c nc its2.toArray) he hz hfr hTI hTO ⟨t1, p⟩ ⟨t2, p2⟩ (by omega) fun h' tk hk => ⟨rfl, I.turnedL (t' := tk) (ch := [e, z, TI, TO, i1, i2]) (fun c o hb q =>
      hk c o (fun q' => hb (by simp [q'])) (fun q' => hb (by simp [q'])) (fun q' => hb (by simp [q'])) (fun q' => hb (by simp [q'])) q) hf⟩
  self := fun A i s Q E st h => let ⟨⟨_, he⟩, _⟩ := st; wpAny_pyIter_enum he h
def iEZ (K : PySem.W.Frag) (ta : TA) : TI := fun σ H R => ta σ H fun vs H1 => ∃ (a c : Addr) (t t' : Bool) (xs ys : List V), vs = [.ref a, .ref c] ∧ SqB K H1 t a xs ∧ SqB K H1 t' c ys ∧ R (ItEZ K t t' a c) H1
theorem pi_EZ {X : Cx} {e e2 : Expr} {ta : TA} {p pos p' pos' tpos : Pos} {elts : List Expr} {kk : Nat} (hg : Gl X "zip") (hm : X.mg "zip" = none) (hg' : Gl X "enumerate") (hm' : X.mg "enumerate" = none) (ha : PA X [e, e2] ta)
    (hs : starEach [e, e2] X.env = (false, eval e X.env) :: starEach [e2] X.env := by rfl) (hpl : (backTo pos (starEach [e2] X.env)).any (·.1) = false := by rfl) :
    PI X (.Tuple elts kk tpos) (.Call (.Name "enumerate" p') [.Call (.Name "zip" p) [e, e2] [] pos] [] pos') (iEZ X.K ta) := by
  refine ⟨fun pins s σ H R I h => ?_⟩
  refine PyProof.Rows.Call_ (ld_blt I hg' hm' PyProof.Rows.boot_enumerate (PyProof.Rows.callWith_type1 (Calls.spliced_cons ?_) rfl rfl))
  refine PyProof.Rows.Call_ (ld_blt I hg hm PyProof.Rows.boot_zip (PyProof.Rows.callWith_type1 (thn (ha.run pos pins s σ H _ I h) fun us s1 ⟨vs, H1, I1, r1, q1⟩ => ?_) hs hpl))
  obtain ⟨a, c, t, t', xs, ys, ex, hx, hy, q⟩ := q1
  subst ex
  cases r1 with
  | cons r rr =>
    cases rr with
    | cons r' rr =>
      cases rr
      cases r
      cases r'
      obtain ⟨its, rv, p1⟩ := seB I1 hx
      obtain ⟨its2, rv2, p2⟩ := seB I1 hy
      refine zip_begins2 (begB t a its.toArray) (begB t' c its2.toArray) p1 p2 fun k hz hTI hTO h1 h2 hsz hk => Calls.spliced_nil ?_
      refine EvZ.beginsEZ (s := { s1 with heap := k }) (z := s1.heap.objs.size + 4) hz fun h' he hk2 => ?_
      have he' : IsEnum h' (s1.heap.objs.size + 5) (s1.heap.objs.size + 4) 0 .none := by rw [← hsz]; exact he
      show wpAny _ _ (pyIter (.ref k.objs.size)) _ _ _
      rw [hsz]
      refine wpAny_pyIter_enum he' ?_
      have I2 : Inv X pins σ H1 { s1 with heap := h' } := I1.kept (t' := s1.toks) fun b o q => hk2 b o (hk b o q)
      have nn : ∀ i j : Nat, i ≠ j → s1.heap.objs.size + i ≠ s1.heap.objs.size + j := fun i j h => by omega
      have ll : ∀ b : Nat, b ∈ [s1.heap.objs.size + 5, s1.heap.objs.size + 4, s1.heap.objs.size + 2, s1.heap.objs.size + 3, s1.heap.objs.size, s1.heap.objs.size + 1] → s1.heap.objs.size ≤ b := fun b hb => by
        simp only [List.mem_cons, List.not_mem_nil, or_false] at hb
        omega
      refine ⟨s1.heap.objs.size + 5, [s1.heap.objs.size + 5, s1.heap.objs.size + 4, s1.heap.objs.size + 2, s1.heap.objs.size + 3, s1.heap.objs.size, s1.heap.objs.size + 1], _, _, H1, rfl, I2,
        turn_EZ (zip_sep2 (fp1 := [a]) (fp2 := [c]) (by simpa using p1.lt) (by simpa using p2.lt)) (Nat.ne_of_lt p1.lt) (Nat.ne_of_lt (Nat.lt_succ_of_lt p2.lt)) (nn 5 4 (by decide)) (nn 5 2 (by decide)) (nn 5 3 (by decide)) (nn 5 0 (by decide)) (nn 5 1 (by decide)),
        ⟨⟨.none, he'⟩, ⟨.none, false, .inl rfl, hk2 _ _ hz⟩, hk2 _ _ hTI, ⟨_, _, hk2 _ _ hTO⟩, itB_new (hk2 _ _ h1), itB_new (hk2 _ _ h2)⟩, fun b hb => ?_, q⟩
      have hle : s1.heap.objs.size ≤ b := ll b hb
      exact I1.fpOk hle (I1.hok.fresh hle)
def mEnZ (ms : List M) : MI := fun ρ => (mArgs ms ρ).bnd fun ps ρ1 => Res.of ((pvZipB ps).map enumP) ρ1
def YEZ (f g : Nat → Option V) (i : Nat) (H : Hp) (v : V) (H' : Hp) : Prop := ∃ T T' x y, v = .ref T' ∧ H T = none ∧ L2.upd H T (.tup [x, y]) T' = none ∧ H' = L2.upd (L2.upd H T (.tup [x, y])) T' (.tup [.int (i : Nat), .ref T]) ∧ f i = some x ∧ g i = some y
theorem walk_EZ {K : PySem.W.Frag} {t t' : Bool} {a c : Addr} {xs ys : List V} {n : Nat} (hn : n = min xs.length ys.length) : Walk (ItEZ K t t' a c) n (fun H => SqB K H t a xs ∧ SqB K H t' c ys) (YEZ (fun i => xs[i]?) (fun i => ys[i]?)) := by
  subst hn
  refine ⟨fun i _ hi q => ?_, fun _ q => ⟨xs, ys, q.1, q.2, by omega, by omega, by omega⟩, fun i H v H' _ q y => ?_⟩
  · have h1 : i < xs.length := by omega
    have h2 : i < ys.length := by omega
    exact ⟨xs, ys, xs[i], ys[i], q.1, q.2, by simp [h1], by simp [h2]⟩
  · obtain ⟨T, T', x, z, h1, h2, h3, h4, h5, h6⟩ := y
    exact ⟨T, T', x, z, h1, h2, h3, h4, h5 xs q.1, h6 ys q.2⟩
theorem item_EZ {K : PySem.W.Frag} {F F2 H2 H3 : Hp} {xs ys : List PV} {vs ws : List V} {i : Nat} {p : PV} {v : V} (r1 : Reps K F xs vs) (r2 : Reps K F ys ws) (s1 : Same F F2) (s2 : Same F2 H2) (e : (enumP (List.zipWith pairP xs ys))[i]? = some p)
    (y : YEZ (fun i => vs[i]?) (fun i => ws[i]?) i H2 v H3) : ItemAt K F2 H2 p v H3 := by
  obtain ⟨T, T', x, z, rfl, hT, hT', rfl, hx, hz⟩ := y
  unfold enumP at e
  rw [List.getElem?_mapIdx, List.getElem?_zipWith] at e
  cases e1 : xs[i]? with
  | none => rw [e1] at e; cases e
  | some a =>
    cases e2 : ys[i]? with
    | none => rw [e1, e2] at e; cases e
    | some c =>
      rw [e1, e2] at e
      cases e
      obtain ⟨v1, h1, h2⟩ := r1.get e1
      obtain ⟨v2, h3, h4⟩ := r2.get e2
      rw [show vs[i]? = some x from hx] at h1
      rw [show ws[i]? = some z from hz] at h3
      cases h1
      cases h3
      have sT : Same F2 (L2.upd F2 T (.tup [x, z])) := Same.upd (s2.free hT)
      have nT : T' ≠ T := fun q => by subst q; rw [upd_same] at hT'; cases hT'
      have fT' : L2.upd F2 T (.tup [x, z]) T' = none := by rw [upd_ne nT] at hT' ⊢; exact s2.free hT'
      have sT' : Same (L2.upd F2 T (.tup [x, z])) (L2.upd (L2.upd F2 T (.tup [x, z])) T' (.tup [.int (i : Nat), .ref T])) := Same.upd fT'
      refine .inr (.inr ⟨T, _, T', _, hT, hT', rfl, ?_⟩)
      have in1 : Rep K (L2.upd F2 T (.tup [x, z])) (pairP a c) (.ref T) := by
        unfold pairP Rep
        exact ⟨T, _, rfl, upd_same, Reps.cons (Rep.mono sT _ _ (Rep.mono s1 _ _ h2)) (Reps.cons (Rep.mono sT _ _ (Rep.mono s1 _ _ h4)) Reps.nil)⟩
      show Rep K _ (.tup [.int (i : Nat), pairP a c]) _
      unfold Rep
      exact ⟨T', _, rfl, upd_same, Reps.cons Rep.int (Reps.cons (Rep.mono sT' _ _ in1) Reps.nil)⟩
section
variable {X : Cx} {W : WX} {pos : Pos}
theorem i_EZ {p p' tpos pos' : Pos} {e e2 : Expr} {m m' : M} {elts : List Expr} {kk : Nat} (c : Ctx X W) (hg : Gl X "zip") (hm : X.mg "zip" = none) (hg' : Gl X "enumerate") (hm' : X.mg "enumerate" = none) (ha : SndE X W e m) (hb : SndE X W e2 m') (hs : starEach [e, e2] X.env = (false, eval e X.env) :: starEach [e2] X.env := by rfl) (hs2 : starEach [e2] X.env = [(false, eval e2 X.env)] := by rfl)
    (hpl : (backTo pos (starEach [e2] X.env)).any (·.1) = false := by rfl) : SndI X W (.Tuple elts kk tpos) (.Call (.Name "enumerate" p') [.Call (.Name "zip" p) [e, e2] [] pos] [] pos') (mEnZ [m, m']) := fun F ρ σ H R g hp => by
  refine wi_of (pi_EZ hg hm hg' hm' pa_wa hs hpl) ?_
  refine (sa_cons ha (sa_cons hb sa_nil hs2) hs).thenL g hp fun F1 ρ1 H1 ps vs st g1 rp len hp1 => ?_
  obtain ⟨z, ez⟩ := hp1.some
  rw [ez] at hp1
  unfold pvZipB at ez
  split at ez
  · rename_i p q
    obtain ⟨v, w, rfl, r, r'⟩ := rp.two
    cases e1 : pvSq p with
    | none => rw [e1] at ez; cases ez
    | some xs =>
    cases e2 : pvSq q with
    | none => rw [e1, e2] at ez; cases ez
    | some ys =>
    rw [e1, e2] at ez
    cases ez
    obtain ⟨a, t, us, rfl, h1, h2⟩ := sq_rep r e1
    obtain ⟨c, t', ws, rfl, h3, h4⟩ := sq_rep r' e2
    refine ⟨a, c, t, t', us, ws, rfl, h1 _ g1.sub, h3 _ g1.sub, hp1 F1 H1 _ Stp.refl g1 ⟨?_⟩⟩
    refine ⟨_, _, walk_EZ (n := (enumP (List.zipWith pairP xs ys)).length) (xs := us) (ys := ws) (by simp [enumP, h2.length, h4.length]), fun H2 s => ⟨h1 _ s, h3 _ s⟩, fun i p F2 H2 x H3 e s1 s2 y => item_EZ h2 h4 s1 s2 e y⟩
  · cases ez
end
end Ev

set_option Elab.async false
set_option linter.all false
set_option maxRecDepth 100000
/-! a, b = x, y where some get new lists of their own -/
namespace Ev
open PySem L2
inductive Cp where
  | v (m : M) | f (m : MF)
def Cp.run : Cp → Rho → Res (Slot × Rho)
  | .v m, ρ => (m ρ).bnd fun p ρ1 => .ok (.val p, ρ1)
  | .f m, ρ => (m ρ).bnd fun xs ρ1 => .ok (.own xs, ρ1)
def mCps : List Cp → Rho → Res (List Slot × Rho)
  | [], ρ => .ok ([], ρ)
  | c :: cs, ρ => (c.run ρ).bnd fun s ρ1 => (mCps cs ρ1).bnd fun ss ρ2 => .ok (s :: ss, ρ2)
def SlotAt (K : PySem.W.Frag) (σ : St) (H0 F : Hp) (ρ : Rho) (H : Hp) : Slot → V → Prop
  | .val p, v => Rep K F p v
  | .own xs, v => ∃ a vs, v = .ref a ∧ H0 a = none ∧ F a = none ∧ NotOwn ρ σ a ∧ H a = some (.lst vs) ∧ Reps K F xs vs
  | .emp, _ => False
def SlotsAt (K : PySem.W.Frag) (σ : St) (H0 F : Hp) (ρ : Rho) (H : Hp) : List Slot → List V → Prop
  | [], vs => vs = []
  | s :: ss, vs => ∃ v r, vs = v :: r ∧ SlotAt K σ H0 F ρ H s v ∧ SlotsAt K σ H0 F ρ H ss r ∧ ∀ xs a, s = .own xs → v = .ref a → ∀ (j : Nat) ys, ss[j]? = some (.own ys) → r[j]? ≠ some (.ref a)
theorem SlotAt.mono {K : PySem.W.Frag} {σ : St} {H0 H1 F F' : Hp} {ρ ρ' : Rho} {H H' : Hp} {s : Slot} {v : V} (h : SlotAt K σ H1 F ρ H s v) (hx : ∀ q, H1 q = none → H0 q = none) (st : Stp σ F ρ H F' ρ' H') : SlotAt K σ H0 F' ρ' H' s v := by
  cases s with
  | emp => exact h.elim
  | val p => exact Rep.mono st.ff _ _ h
  | own xs =>
    obtain ⟨a, vs, e, h0, fa, no, ha, r⟩ := h
    exact ⟨a, vs, e, hx _ h0, st.nf a _ ha fa no, no.sub st.os, st.kp a _ ha no, Reps.mono st.ff _ _ r⟩
theorem SlotsAt.mono {K : PySem.W.Frag} {σ : St} {H0 H1 F F' : Hp} {ρ ρ' : Rho} {H H' : Hp} (hx : ∀ q, H1 q = none → H0 q = none) (st : Stp σ F ρ H F' ρ' H') : ∀ {ss : List Slot} {vs : List V}, SlotsAt K σ H1 F ρ H ss vs → SlotsAt K σ H0 F' ρ' H' ss vs
  | [], vs, h => h
  | s :: ss, vs, h => by
    obtain ⟨v, r, e, h1, h2, h3⟩ := h
    exact ⟨v, r, e, h1.mono hx st, SlotsAt.mono hx st h2, h3⟩
theorem SlotsAt.out {K : PySem.W.Frag} {σ : St} {H0 F : Hp} {ρ : Rho} {H : Hp} {a : Addr} {o : HO} (ha : H0 a = some o) : ∀ {ss : List Slot} {vs : List V}, SlotsAt K σ H0 F ρ H ss vs → ∀ (j : Nat) ys, ss[j]? = some (.own ys) → vs[j]? ≠ some (.ref a)
  | [], vs, h, j, ys, e => by cases e
  | s :: ss, vs, h, 0, ys, e => by
    obtain ⟨v, r, rfl, h1, _, _⟩ := h
    simp at e
    subst e
    obtain ⟨b, ws, rfl, h0, _⟩ := h1
    intro z
    simp at z
    rw [z, ha] at h0
    cases h0
  | s :: ss, vs, h, j + 1, ys, e => by
    obtain ⟨v, r, rfl, _, h2, _⟩ := h
    have := SlotsAt.out ha h2 j ys (by simpa using e)
    simpa using this
def repCs (K : PySem.W.Frag) (σ : St) : RepT (List Slot) (List V) := fun H0 F ρ H ss vs => SlotsAt K σ H0 F ρ H ss vs
instance (K : PySem.W.Frag) (σ : St) : RepM (repCs K σ) := ⟨fun H0 H1 F ρ H' p v k h => SlotsAt.mono k Stp.refl h⟩
def SndC (X : Cx) (W : WX) (e : Expr) : Cp → Prop
  | .v m => SndE X W e m
  | .f m => SndF X W e m
def SndCs (X : Cx) (W : WX) (es : List Expr) (cs : List Cp) : Prop :=
  ∀ (F : Hp) (ρ : Rho) (σ : St) (H : Hp) (Q : List V → Hp → Prop), Good X.K F ρ σ H → Post (repCs X.K σ) X W F ρ σ H (mCps cs ρ) Q → WA X es σ H Q
section
variable {X : Cx} {W : WX} {pos : Pos} {b : Option Addr}
theorem cs_nil : SndCs X W [] [] := fun F ρ σ H Q g hp => wa_of pa_nil (show Q [] H from hp F H [] Stp.refl g rfl)
theorem cs_cons {e : Expr} {es : List Expr} {c : Cp} {cs : List Cp} (ha : SndC X W e c) (hr : SndCs X W es cs) (hs : starEach (e :: es) X.env = (false, eval e X.env) :: starEach es X.env := by rfl) : SndCs X W (e :: es) (c :: cs) := fun F ρ σ H Q g hp => by
  refine wa_of (pa_cons pe_we pa_wa hs) ?_
  unfold mCps at hp
  have fin : ∀ (F1 : Hp) (ρ1 : Rho) (H1 : Hp) (s : Slot) (x : V), Stp σ F ρ H F1 ρ1 H1 → Good X.K F1 ρ1 σ H1 → SlotAt X.K σ H F1 ρ1 H1 s x → Post (repCs X.K σ) X W F ρ σ H ((mCps cs ρ1).bnd fun ss ρ2 => .ok (s :: ss, ρ2)) Q → WA X es σ H1 fun xs H2 => Q (x :: xs) H2 := fun F1 ρ1 H1 s x st1 g1 sx hp1 => by
    refine hr F1 ρ1 σ H1 _ g1 ?_
    cases hm : mCps cs ρ1 with
    | bad => rw [hm] at hp1; exact hp1.elim
    | exc y ρ2 => rw [hm] at hp1; exact fun F' H' cls d st2 g2 ex => hp1 F' H' cls d (st1.trans st2) g2 ex
    | ok z =>
      obtain ⟨ss, ρ2⟩ := z
      rw [hm] at hp1
      intro F2 H2 xs st2 g2 rs
      refine hp1 F2 H2 (x :: xs) (st1.trans st2) g2 ⟨x, xs, rfl, sx.mono (fun _ h => h) st2, SlotsAt.mono st1.ex Stp.refl rs, fun ys a e1 e2 => ?_⟩
      subst e1 e2
      obtain ⟨a', vs, e, _, _, _, ha', _⟩ := sx
      cases e
      exact SlotsAt.out ha' rs
  cases c with
  | v m =>
    refine (show SndE X W e m from ha) F ρ σ H _ g ?_
    replace hp : Post (repCs X.K σ) X W F ρ σ H (((m ρ).bnd fun p ρ1 => .ok (Slot.val p, ρ1)).bnd fun s ρ1 => (mCps cs ρ1).bnd fun ss ρ2 => .ok (s :: ss, ρ2)) Q := hp
    cases hm : m ρ with
    | bad => rw [hm] at hp; exact hp.elim
    | exc y ρ2 => rw [hm] at hp; exact hp
    | ok z =>
      obtain ⟨p, ρ1⟩ := z
      rw [hm] at hp
      exact fun F1 H1 x st1 g1 rx => fin F1 ρ1 H1 (.val p) x st1 g1 rx hp
  | f m =>
    refine (show SndF X W e m from ha) F ρ σ H _ g ?_
    replace hp : Post (repCs X.K σ) X W F ρ σ H (((m ρ).bnd fun p ρ1 => .ok (Slot.own p, ρ1)).bnd fun s ρ1 => (mCps cs ρ1).bnd fun ss ρ2 => .ok (s :: ss, ρ2)) Q := hp
    cases hm : m ρ with
    | bad => rw [hm] at hp; exact hp.elim
    | exc y ρ2 => rw [hm] at hp; exact hp
    | ok z =>
      obtain ⟨p, ρ1⟩ := z
      rw [hm] at hp
      exact fun F1 H1 x st1 g1 rx => fin F1 ρ1 H1 (.own p) x st1 g1 rx hp
def setAll (ρ : Rho) : List Nat → List Slot → Rho
  | i :: is, s :: ss => setAll (ρ.set i s) is ss
  | _, _ => ρ
def setAllV (σ : St) : List Nat → List V → St
  | i :: is, v :: vs => setAllV (σ.set i (some v)) is vs
  | _, _ => σ
theorem set_all {K : PySem.W.Frag} {H0 F0 F H Hs : Hp} (hx : ∀ q, Hs q = none → H0 q = none) : ∀ {is : List Nat} {ss : List Slot} {vs : List V} {ρ : Rho} {σ : St}, (∀ i ∈ is, b = none ∨ i ≠ 0) → SlotsAt K σ Hs F ρ H ss vs → Fr0 H0 F0 b ρ σ F H → Good K F ρ σ H →
    Fr0 H0 F0 b (setAll ρ is ss) (setAllV σ is vs) F H ∧ Good K F (setAll ρ is ss) (setAllV σ is vs) H
  | [], ss, vs, ρ, σ, hb, h, f, g => by cases ss <;> cases vs <;> exact ⟨f, g⟩
  | i :: is, [], vs, ρ, σ, hb, h, f, g => by cases h; exact ⟨f, g⟩
  | i :: is, s :: ss, vs, ρ, σ, hb, h, f, g => by
    obtain ⟨v, r, rfl, h1, h2, h3⟩ := h
    have hbi := hb i (by simp)
    have hbs : ∀ j ∈ is, b = none ∨ j ≠ 0 := fun j hj => hb j (by simp [hj])
    have keep : ∀ {ss : List Slot} {r : List V}, SlotsAt K σ Hs F ρ H ss r → (∀ xs a, s = .own xs → v = .ref a → ∀ (j : Nat) ys, ss[j]? = some (.own ys) → r[j]? ≠ some (.ref a)) → SlotsAt K (σ.set i (some v)) Hs F (ρ.set i s) H ss r := by
      intro ss
      induction ss with
      | nil => exact fun h _ => h
      | cons s' ss ih =>
        intro r h k
        obtain ⟨v', r', rfl, k1, k2, k3⟩ := h
        refine ⟨v', r', rfl, ?_, ih k2 (fun xs a e1 e2 j ys e3 => by simpa using k xs a e1 e2 (j + 1) ys (by simpa using e3)), k3⟩
        cases s' with
        | emp => exact k1.elim
        | val p => exact k1
        | own xs' =>
          obtain ⟨a', vs', e, q0, q1, q2, q3, q4⟩ := k1
          refine ⟨a', vs', e, q0, q1, fun j ys ej z => ?_, q3, q4⟩
          rcases get_set ej with ⟨rfl, w⟩ | ⟨ne, w⟩
          · subst w
            rw [set_get, if_pos rfl] at z
            split at z
            · cases z
              exact k ys a' rfl rfl 0 xs' rfl (by rw [e]; rfl)
            · cases z
          · rw [List.getElem?_set_ne ne] at z
            exact q2 j ys w z
    cases s with
    | emp => exact h1.elim
    | val p => exact set_all (is := is) (ss := ss) hx hbs (keep h2 h3) (f.setVal hbi) (g.setVal h1)
    | own xs =>
      obtain ⟨a, ws, rfl, q0, q1, q2, q3, q4⟩ := h1
      exact set_all (is := is) (ss := ss) hx hbs (keep h2 h3) (f.setOwn hbi (hx a q0)) (g.setOwn q1 q2 q3 q4)
def mParG (is : List Nat) (cs : List Cp) : MS := fun ρ => (mCps cs ρ).sr fun ss ρ1 => if ss.length = is.length then .nx (setAll ρ1 is ss) else .bad
theorem SlotsAt.length {K : PySem.W.Frag} {σ : St} {H0 F : Hp} {ρ : Rho} {H : Hp} : ∀ {ss : List Slot} {vs : List V}, SlotsAt K σ H0 F ρ H ss vs → ss.length = vs.length
  | [], vs, h => by cases h; rfl
  | s :: ss, vs, h => by obtain ⟨v, r, rfl, _, h2, _⟩ := h; simp [h2.length]
/-- names of the def's own, two -/
theorem st_pg2 {i j : Nat} {x y : Str} {a c' : Expr} {c1 c2 : Cp} {px py pt : Pos} {kt k2 pt2} (c : Ctx X W) (hi : X.N[i]? = some x) (hj : X.N[j]? = some y) (hij : i ≠ j)
    (hx : X.env.scope.names.lookup x = some .local) (hy : X.env.scope.names.lookup y = some .local) (ha : SndCs X W [a, c'] [c1, c2]) (hb : ∀ k ∈ [i, j], b = none ∨ k ≠ 0)
    (hw : swappedStores [.Tuple [.Name x px, .Name y py] kt pt] (.Tuple [a, c'] k2 pt2) X.env = pure (some [x, y]))
    (hs : swapsWithSole [.Tuple [.Name x px, .Name y py] kt pt] (.Tuple [a, c'] k2 pt2) pos.line X.env = pure false := by rfl) :
    SndS X W b (.Assign [.Tuple [.Name x px, .Name y py] kt pt] (.Tuple [a, c'] k2 pt2) pos) (mParG [i, j] [c1, c2]) := fun H0 F0 F ρ σ H D f g hp => by
  refine ws_of (ps_par c.calm c.nd hi hj hij hx hy pa_wa hw hs) ?_
  refine ha F ρ σ H _ g (Post.sr f hp fun F1 ρ1 H1 ss vs st f1 g1 r hp1 => ?_)
  have hl := SlotsAt.length r
  split at hp1
  · rename_i l2
    match vs, hl, r with
    | [v, w], _, r =>
      obtain ⟨f2, g2⟩ := set_all (b := b) (is := [i, j]) f.ex hb r f1 g1
      exact ⟨v, w, rfl, hp1 F1 _ H1 f2 g2⟩
    | [], hl, _ => rw [l2] at hl; cases hl
    | [_], hl, _ => rw [l2] at hl; cases hl
    | _ :: _ :: _ :: _, hl, _ => rw [l2] at hl; simp at hl
  · exact hp1.elim
theorem st_pg3 {i j l : Nat} {x y z : Str} {a c' d' : Expr} {c1 c2 c3 : Cp} {px py pz pt : Pos} {kt k2 pt2} (c : Ctx X W) (hi : X.N[i]? = some x) (hj : X.N[j]? = some y) (hl : X.N[l]? = some z) (hij : i ≠ j) (hil : i ≠ l) (hjl : j ≠ l)
    (hx : X.env.scope.names.lookup x = some .local) (hy : X.env.scope.names.lookup y = some .local) (hz : X.env.scope.names.lookup z = some .local) (ha : SndCs X W [a, c', d'] [c1, c2, c3]) (hb : ∀ k ∈ [i, j, l], b = none ∨ k ≠ 0)
    (hw : swappedStores [.Tuple [.Name x px, .Name y py, .Name z pz] kt pt] (.Tuple [a, c', d'] k2 pt2) X.env = pure (some [x, y, z]))
    (hs : swapsWithSole [.Tuple [.Name x px, .Name y py, .Name z pz] kt pt] (.Tuple [a, c', d'] k2 pt2) pos.line X.env = pure false := by rfl) :
    SndS X W b (.Assign [.Tuple [.Name x px, .Name y py, .Name z pz] kt pt] (.Tuple [a, c', d'] k2 pt2) pos) (mParG [i, j, l] [c1, c2, c3]) := fun H0 F0 F ρ σ H D f g hp => by
  refine ws_of (ps_par3 c.calm c.nd hi hj hl hij hil hjl hx hy hz pa_wa hw hs) ?_
  refine ha F ρ σ H _ g (Post.sr f hp fun F1 ρ1 H1 ss vs st f1 g1 r hp1 => ?_)
  have hl := SlotsAt.length r
  split at hp1
  · rename_i l2
    match vs, hl, r with
    | [v, w, u], _, r =>
      obtain ⟨f2, g2⟩ := set_all (b := b) (is := [i, j, l]) f.ex hb r f1 g1
      exact ⟨v, w, u, rfl, hp1 F1 _ H1 f2 g2⟩
    | [], hl, _ => rw [l2] at hl; cases hl
    | [_], hl, _ => rw [l2] at hl; cases hl
    | [_, _], hl, _ => rw [l2] at hl; cases hl
    | _ :: _ :: _ :: _ :: _, hl, _ => rw [l2] at hl; simp at hl
  · exact hp1.elim
/-- any names: by a tuple -/
def gNames : List Nat → TGs
  | [] => gNil
  | i :: is => gCons (gName i) (gNames is)
theorem gNames_ok {Q : St → Hp → Prop} {H : Hp} : ∀ {is : List Nat} {vs : List V} {σ : St}, vs.length = is.length → Q (setAllV σ is vs) H → gNames is vs σ H Q
  | [], [], σ, _, h => ⟨rfl, h⟩
  | i :: is, v :: vs, σ, hl, h => ⟨v, vs, rfl, gNames_ok (by simpa using hl) h⟩
  | [], _ :: _, _, hl, _ => by cases hl
  | _ :: _, [], _, hl, _ => by cases hl
theorem SlotsAt.lay {K : PySem.W.Frag} {σ : St} {H0 F : Hp} {ρ : Rho} {H : Hp} {p : Addr} {o : HO} (n : H p = none) : ∀ {ss : List Slot} {vs : List V}, SlotsAt K σ H0 F ρ H ss vs → SlotsAt K σ H0 F ρ (upd H p o) ss vs
  | [], vs, h => h
  | s :: ss, vs, h => by
    obtain ⟨v, r, e, h1, h2, h3⟩ := h
    refine ⟨v, r, e, ?_, SlotsAt.lay n h2, h3⟩
    cases s with
    | emp => exact h1.elim
    | val q => exact h1
    | own xs =>
      obtain ⟨a, vs, e, q0, q1, q2, q3, q4⟩ := h1
      exact ⟨a, vs, e, q0, q1, q2, by rw [upd_ne (ne_of_none q3 n)]; exact q3, q4⟩
theorem Fr0.lay {H0 F0 F H : Hp} {ρ : Rho} {σ : St} {p : Addr} {o : HO} (f : Fr0 H0 F0 b ρ σ F H) (n : H p = none) : Fr0 H0 F0 b ρ σ F (upd H p o) := f.step (Stp.lay n)
theorem st_pgT {is : List Nat} {cs : List Cp} {tes es : List Expr} {kt k2 : Nat} {pt pt2 : Pos} (c : Ctx X W) (ha : SndCs X W es cs) (hg : PGs X tes (gNames is)) (hb : ∀ k ∈ is, b = none ∨ k ≠ 0) (h1000 : is.length ≤ 1000 := by decide)
    (hn : (assignEach tes X.env).length = is.length := by rfl) (hst : (assignEach tes X.env).findIdx? (·.1) = none := by rfl)
    (hs : swapsWithSole [.Tuple tes kt pt] (.Tuple es k2 pt2) pos.line X.env = pure false := by rfl) (hw : swappedStores [.Tuple tes kt pt] (.Tuple es k2 pt2) X.env = pure none := by rfl)
    (h1 : (assignEach [.Tuple tes kt pt] X.env).map (·.2) = [assign (.Tuple tes kt pt) X.env] := by rfl) :
    SndS X W b (.Assign [.Tuple tes kt pt] (.Tuple es k2 pt2) pos) (mParG is cs) := fun H0 F0 F ρ σ H D f g hp => by
  refine ws_of (ps_asg (pe_tup pa_wa) (pg_tup (n := is.length) c.calm hg hn hst) hs hw h1) ?_
  refine ha F ρ σ H _ g (Post.sr f hp fun F1 ρ1 H1 ss vs st f1 g1 r hp1 => ?_)
  have hl := SlotsAt.length r
  split at hp1
  · rename_i l2
    refine ⟨small_le (by omega), fun p np => ⟨p, vs, rfl, SqT.of upd_same, by omega, ?_⟩⟩
    obtain ⟨f2, g2⟩ := set_all (b := b) (is := is) f.ex hb (SlotsAt.lay np r) (f1.lay np) (g1.lay np)
    exact gNames_ok (by omega) (hp1 F1 _ _ f2 g2)
  · exact hp1.elim
theorem pgs_n0 : PGs X [] (gNames []) := pgs_nil
theorem pgs_n {i : Nat} {is : List Nat} {x : Str} {es : List Expr} (c : Ctx X W) (hi : X.N[i]? = some x) (hx : Loc X.env.scope x) (hr : PGs X es (gNames is)) (hf : X.fn x = true ∨ X.env.scope.names.lookup x = some .local := by first | exact .inl rfl | exact .inr rfl | assumption)
    (hs : (assignEach (.Name x pos :: es) X.env).map (·.2) = assign (.Name x pos) X.env :: (assignEach es X.env).map (·.2) := by rfl) : PGs X (.Name x pos :: es) (gNames (i :: is)) := pgs_cons (pg_name c.nd hi hx hf) hr hs
end
end Ev

set_option Elab.async false
set_option linter.all false
set_option maxRecDepth 100000
set_option maxHeartbeats 1000000
/-! xs[::-1], xs[:0:-1] of lists and tuples -/
namespace Ev
open PySem PySem.Spec PyProof.Rows L2
theorem filterMap_pick {α : Type} (xs : List α) : ∀ (n : Nat), n ≤ xs.length → (List.range n).filterMap (fun k : Nat => xs[xs.length - 1 - k]?) = xs.reverse.take n
  | 0, _ => by simp
  | n + 1, h => by
    rw [List.range_succ, List.filterMap_append, filterMap_pick xs n (by omega), List.take_add_one]
    congr 1
    have h1 : xs.length - 1 - n < xs.length := by omega
    have h2 : n < xs.reverse.length := by simp; omega
    rw [List.getElem?_eq_getElem h2]
    simp [List.getElem?_eq_getElem h1, List.getElem_reverse]
/-- what is picked, from the last one down to the place behind hi -/
def cutDown {α : Type} (z : Bool) (xs : List α) : List α := if z then (xs.drop 1).reverse else xs.reverse
def hiOf (z : Bool) : Option Int := if z then some 0 else none
theorem pick_down (z : Bool) (xs : Array Value) :
    ((List.range (Builtin.Slice.slicePlaces (Builtin.Slice.sliceAdjust none (hiOf z) (-1) (xs.size : Int)).1 (Builtin.Slice.sliceAdjust none (hiOf z) (-1) (xs.size : Int)).2 (-1))).filterMap fun (k : Nat) => xs[((Builtin.Slice.sliceAdjust none (hiOf z) (-1) (xs.size : Int)).1 + (k : Int) * (-1)).toNat]?) = cutDown z xs.toList := by
  obtain ⟨l⟩ := xs
  have e1 : (Builtin.Slice.sliceAdjust none (hiOf z) (-1) (l.toArray.size : Int)).1 = (l.length : Int) - 1 := by simp [Builtin.Slice.sliceAdjust]
  have e2 : (Builtin.Slice.sliceAdjust none (hiOf z) (-1) (l.toArray.size : Int)).2 = if z then min 0 ((l.length : Int) - 1) else -1 := by cases z <;> simp [Builtin.Slice.sliceAdjust, hiOf]
  have e3 : Builtin.Slice.slicePlaces ((l.length : Int) - 1) (if z then min 0 ((l.length : Int) - 1) else -1) (-1) = if z then l.length - 1 else l.length := by
    unfold Builtin.Slice.slicePlaces
    have h1 : ¬ ((-1 : Int) > 0) := by omega
    simp only [h1, if_false, Int.neg_neg, Int.ediv_one]
    cases z <;> simp <;> split <;> omega
  rw [e1, e2, e3]
  have e4 : ∀ n : Nat, n ≤ l.length → (List.range n).filterMap (fun (k : Nat) => l.toArray[((l.length : Int) - 1 + (k : Int) * (-1)).toNat]?) = l.reverse.take n := fun n hn => by
    rw [← filterMap_pick l n hn]
    congr 1
    funext k
    have e : ((l.length : Int) - 1 + (k : Int) * (-1)).toNat = l.length - 1 - k := by omega
    rw [e]; simp
  cases z with
  | false => simp only [Bool.false_eq_true, if_false]; rw [e4 _ (Nat.le_refl _), List.take_of_length_le (by simp)]; simp [cutDown]
  | true =>
    simp only [if_true]
    rw [e4 _ (by omega)]
    simp only [cutDown, if_true, List.toList_toArray]
    rw [List.reverse_drop]
section
variable {prog : Program} {w : World} {A : Around} {E : Value → Shared → Prop} {s : Shared}
theorem applied_down {sl : Addr} {vl vu vs : Value} {z : Bool} {n : Nat} {Q : Int × Int × Nat → Shared → Prop} (hs : s.heap.IsSliceOf sl vl vu vs) (pl : IsPart vl none) (pu : IsPart vu (hiOf z)) (ps : IsPart vs (some (-1)))
    (h : Q ((Builtin.Slice.sliceAdjust none (hiOf z) (-1) (n : Int)).1, -1, Builtin.Slice.slicePlaces (Builtin.Slice.sliceAdjust none (hiOf z) (-1) (n : Int)).1 (Builtin.Slice.sliceAdjust none (hiOf z) (-1) (n : Int)).2 (-1)) s) :
    wpAny (model prog w) A (Builtin.Slice.sliceApplied (.ref sl) (pure (n : Int))) Q E s := by
  obtain ⟨os, hos, hcs, hds⟩ := id hs
  unfold Builtin.Slice.sliceApplied Builtin.Slice.sliceFields
  refine wpAny_bind (wpAny_bind (wpAny_field hos hds (x := vl) rfl (wpAny_bind (wpAny_field hos hds (x := vu) rfl (wpAny_bind (wpAny_field hos hds (x := vs) rfl (wpAny_pure ?_)))))))
  refine wpAny_bind (HT.slicePart_ ps ?_)
  show wpAny _ _ (if ((-1 : Int) == 0) = true then _ else _) _ _ s
  rw [if_neg (by decide)]
  refine wpAny_bind (HT.slicePart_ pl (wpAny_bind (HT.slicePart_ pu (wpAny_bind (wpAny_pure ?_)))))
  exact wpAny_pure h
theorem tuple_down {t sl : Addr} {items : Array Value} {vl vu vs : Value} {z : Bool} {Q : Value → Shared → Prop} (ht : IsTup s.heap t items) (hs : s.heap.IsSliceOf sl vl vu vs) (pl : IsPart vl none) (pu : IsPart vu (hiOf z)) (ps : IsPart vs (some (-1)))
    (h : Q (.ref s.heap.objs.size) { s with heap := s.heap.push { cls := .type "tuple", data := .seq (cutDown z items.toList).toArray } }) (hsz : items.size ≤ sizeLine) : wpAny (model prog w) A (getItem (.ref t) (.ref sl)) Q E s := by
  have hok : sizeOk (.seq (cutDown z items.toList).toArray) := by
    show (cutDown z items.toList).toArray.size ≤ sizeLine
    cases z <;> simp [cutDown] <;> omega
  obtain ⟨os, hos, hcs, hds⟩ := id hs
  have tys : s.TypeIs (.ref sl) "slice" := ⟨os, hos, hcs⟩
  unfold getItem
  try with_reducible refine wpAny_holding ?_
  first | refine wpAny_bind (wpAny_pure ?_) | skip
  refine wpAny_bind (wpAny_sequenceKey ht.typeIs (by decide) ?_)
  refine wpAny_bind (wpAny_callSpecial?_slot (name := Str.ofString "__getitem__") ht.typeIs PyProof.Rows.slot_tuple_getitem (wpAny_call_entry PyProof.Rows.slot_tuple_getitem ht.typeIs entry_tuple_getitem ?_ (args_tuple_getitem _ _)))
  show wpAny _ _ (Builtin.Tuple.tupleItemsOf (.ref t) >>= _) _ _ s
  refine wpAny_bind (tupleItemsOf_ ht (wpAny_bind (wpAny_typeOf tys ?_)))
  rw [if_pos (by decide)]
  refine wpAny_bind (applied_down hs pl pu ps ?_)
  have hno : ¬ (((Builtin.Slice.sliceAdjust none (hiOf z) (-1) (items.size : Int)).1 == 0 && (-1 : Int) == 1 && (Builtin.Slice.slicePlaces (Builtin.Slice.sliceAdjust none (hiOf z) (-1) (items.size : Int)).1 (Builtin.Slice.sliceAdjust none (hiOf z) (-1) (items.size : Int)).2 (-1)) == items.size) = true) := by
    intro q
    rw [Bool.and_eq_true, Bool.and_eq_true] at q
    exact absurd q.1.2 (by decide)
  show wpAny _ _ (if ((Builtin.Slice.sliceAdjust none (hiOf z) (-1) (items.size : Int)).1 == 0 && (-1 : Int) == 1 && (Builtin.Slice.slicePlaces (Builtin.Slice.sliceAdjust none (hiOf z) (-1) (items.size : Int)).1 (Builtin.Slice.sliceAdjust none (hiOf z) (-1) (items.size : Int)).2 (-1)) == items.size) = true then _ else _) _ _ s
  rw [if_neg hno, pick_down]
  first
    | exact wpAny_bind (m := Builtin.Tuple.tupleExact _) (wpAny_newObj_type (wpAny_pure ⟨_, rfl, wpAny_pure h⟩) hok)
    | exact wpAny_bind (m := Builtin.Tuple.tupleExact _) (wpAny_newObj_type (wpAny_bind (wpAny_pure (wpAny_pure ⟨_, rfl, wpAny_pure h⟩))) hok)
    | exact wpAny_bind (wpAny_bind (m := Builtin.Tuple.tupleExact _) (wpAny_newObj_type (wpAny_pure (wpAny_pure ⟨_, rfl, wpAny_pure h⟩)) hok))
    | exact wpAny_bind (wpAny_bind (m := Builtin.Tuple.tupleExact _) (wpAny_newObj_type (wpAny_pure ⟨_, rfl, wpAny_pure h⟩) hok))
end
theorem Vals.cutDown {xs : List V} {its : List Value} (r : Vals xs its) (z : Bool) : Vals (Ev.cutDown z xs) (Ev.cutDown z its) := by
  cases z with
  | false => exact r.reverse
  | true => exact (r.drop 1).reverse
def tDown (K : PySem.W.Frag) (z : Bool) (te : TE) : TE := fun σ H Q => te σ H fun x H1 => (z = false ∧ ∃ a xs, x = .ref a ∧ SqL K H1 a xs ∧ ∀ p, H1 p = none → Q (.ref p) (upd H1 p (.lst xs.reverse))) ∨ (∃ a xs, x = .ref a ∧ SqT K H1 a xs ∧ ∀ p, H1 p = none → Q (.ref p) (upd H1 p (.tup (cutDown z xs))))
section
variable {X : Cx} {W : WX}
theorem pe_down {e : Expr} {te : TE} {k : Nat} {p1 p2 p3 pos : Pos} {hi : Option Expr} {th : TO} {z : Bool} (he : PE X e te) (hh : PO X hi th) (ht : ∀ σ H, th σ H fun o H' => o = hiOf z ∧ H' = H) :
    PE X (.Subscript e (.Slice none hi (some (.UnaryOp .USub (.Constant (.int 1) k p1) p2)) p3) pos) (tDown X.K z te) := by
  refine ⟨fun pins s σ H Q I h => ?_⟩
  refine Subscript_ (thn (he.run pins s σ H _ I h) fun v s1 ⟨x, H1, I1, r1, q1⟩ => ?_)
  have hst : PO X (some (.UnaryOp .USub (.Constant (.int 1) k p1) p2)) (tPart (tUn (rU fun i => .int (-i)) (tC (.int 1)))) := po_some (pe_un un_neg pe_int)
  refine wpAny_Slice (thn (po_none.run pins s1 σ H1 (fun o H2 => o = none ∧ H2 = H1) I1 ⟨rfl, rfl⟩) fun vl s2 ⟨l, H2, I2, pl, el, e2⟩ => ?_)
  subst el e2
  refine thn (hh.run pins s2 σ H2 (fun o H3 => o = hiOf z ∧ H3 = H2) I2 (ht σ H2)) fun vu s3 ⟨u, H3, I3, pu, eu, e3⟩ => ?_
  subst eu e3
  refine thn (hst.run pins s3 σ H3 (fun o H4 => o = some (-1) ∧ H4 = H3) I3 ⟨1, rfl, -1, rfl, rfl, rfl⟩) fun vs s4 ⟨o, H4, I4, ps, eo, e4⟩ => ?_
  subst eo e4
  have I5 : Inv X pins σ H4 { s4 with heap := s4.heap.push { cls := .type "slice", data := .fields #[vl, vu, vs] } } := I4.kept (t' := s4.toks) fun b ob q => Heap.get?_push_of_some _ q
  rcases q1 with ⟨rfl, a, xs, ex, hx, q⟩ | ⟨a, xs, ex, hx, q⟩
  · subst ex
    cases r1
    obtain ⟨its, r, ht, hz⟩ := I5.list hx
    have hlen := r.length
    show wpAny (model X.prog X.w) X.A (subscriptTail e _ (.ref a) (.ref s4.heap.objs.size)) (EP X pins σ Q) X.xe { s4 with heap := s4.heap.push { cls := .type "slice", data := .fields #[vl, vu, vs] } }
    refine tail_any (ops := [.ref a, .ref s4.heap.objs.size]) ht.isList.typeIs (PySem.slot_list_getitem.lookup) ?_ (by with_unfolding_all rfl)
    refine wpAny_getItem_list_slice ht.isList (Heap.IsSliceOf.new _ vl vu vs) pl pu ps (by decide) ?_ (by rw [List.size_toArray]; omega)
    rw [show hiOf false = none from rfl, PySem.W.krv_pick]
    refine ⟨.ref _, _, I5.laid (t' := s4.toks) (o := .lst xs.reverse) (fun b ob q => Heap.get?_push_of_some _ q) (Nat.le_refl _) ?_, rfl, q _ (I5.hok.fresh (Nat.le_refl _))⟩
    exact ⟨by rw [List.length_reverse]; exact hz, _, 0, r.reverse, Heap.get?_push_size _ rfl⟩
  · subst ex
    cases r1
    obtain ⟨its, r, ht, hz⟩ := I5.tuple hx
    have hlen := r.length
    show wpAny (model X.prog X.w) X.A (subscriptTail e _ (.ref a) (.ref s4.heap.objs.size)) (EP X pins σ Q) X.xe { s4 with heap := s4.heap.push { cls := .type "slice", data := .fields #[vl, vu, vs] } }
    refine tail_any (ops := [.ref a, .ref s4.heap.objs.size]) ht.typeIs PyProof.Rows.slot_tuple_getitem.lookup ?_ (by with_unfolding_all rfl)
    refine tuple_down ht (Heap.IsSliceOf.new _ vl vu vs) pl pu ps ?_ (by rw [List.size_toArray]; omega)
    refine ⟨.ref _, _, I5.laid (t' := s4.toks) (o := .tup (cutDown z xs)) (fun b ob q => Heap.get?_push_of_some _ q) (Nat.le_refl _) ?_, rfl, q _ (I5.hok.fresh (Nat.le_refl _))⟩
    exact ⟨by cases z <;> simp [cutDown] <;> omega, _, Vals.cutDown r z, IsTup.new _ _⟩
def pvDown (z : Bool) : PV → Option PV
  | .lst xs => if z then none else some (.lst xs.reverse)
  | .tup xs => some (.tup (cutDown z xs))
  | _ => none
theorem Reps.cutDown {K : PySem.W.Frag} {F : Hp} {ps : List PV} {vs : List V} (r : Reps K F ps vs) (z : Bool) : Reps K F (Ev.cutDown z ps) (Ev.cutDown z vs) := by
  cases z with
  | false => exact r.reverse
  | true => exact (r.drop 1).reverse
theorem s_down {e : Expr} {m : M} {k : Nat} {p1 p2 p3 pos : Pos} {hi : Option Expr} {th : TO} {z : Bool} (he : SndE X W e m) (hh : PO X hi th) (ht : ∀ σ H, th σ H fun o H' => o = hiOf z ∧ H' = H) :
    SndE X W (.Subscript e (.Slice none hi (some (.UnaryOp .USub (.Constant (.int 1) k p1) p2)) p3) pos) (m1 (pvDown z) m) := fun F ρ σ H Q g hp => by
  refine we_of (pe_down pe_we hh ht) ?_
  refine he.then g hp fun F1 ρ1 H1 p v _ g1 rp hp1 => ?_
  obtain ⟨y, ez⟩ := hp1.some
  rw [ez] at hp1
  unfold pvDown at ez
  split at ez
  · split at ez
    · cases ez
    · rename_i hz
      cases ez
      unfold Rep at rp
      obtain ⟨a, ws, rfl, h1, h2⟩ := rp
      exact .inl ⟨by simpa using hz, a, ws, rfl, SqL.of (g1.sub _ _ h1), Post.newL g1 hp1 h2.reverse⟩
  · cases ez
    unfold Rep at rp
    obtain ⟨a, ws, rfl, h1, h2⟩ := rp
    exact .inr ⟨a, ws, rfl, SqT.of (g1.sub _ _ h1), Post.newT g1 hp1 (h2.cutDown z)⟩
  · cases ez
theorem s_rev {e : Expr} {m : M} {k : Nat} {p1 p2 p3 pos : Pos} (he : SndE X W e m) : SndE X W (.Subscript e (.Slice none none (some (.UnaryOp .USub (.Constant (.int 1) k p1) p2)) p3) pos) (m1 (pvDown false) m) :=
  s_down he po_none fun _ _ => ⟨rfl, rfl⟩
theorem s_rev0 {e : Expr} {m : M} {k k0 : Nat} {p0 p1 p2 p3 pos : Pos} (he : SndE X W e m) : SndE X W (.Subscript e (.Slice none (some (.Constant (.int 0) k0 p0)) (some (.UnaryOp .USub (.Constant (.int 1) k p1) p2)) p3) pos) (m1 (pvDown true) m) :=
  s_down he (po_some pe_int) fun _ _ => ⟨0, rfl, rfl, rfl⟩
end
end Ev

set_option Elab.async false
set_option linter.all false
set_option maxRecDepth 100000
/-! f(a = x, b = y): names alone -/
namespace Ev
open PySem L2
def permP (is : List Nat) (ps : List PV) : List PV := is.map fun i => ps.getD i .non
def permV (is : List Nat) (ps : List V) : List V := is.map fun i => ps.getD i .non
def permU (is : List Nat) (ps : List Value) : List Value := is.map fun i => ps.getD i .none
theorem Vals.getD {vs : List V} {us : List Value} (r : Vals vs us) (i : Nat) : RelV (vs.getD i .non) (us.getD i .none) := by
  induction r generalizing i with
  | nil => simp; exact rfl
  | cons h _ ih => cases i with
    | zero => simpa using h
    | succ i => simpa using ih i
theorem Vals.perm {vs : List V} {us : List Value} (r : Vals vs us) : ∀ is : List Nat, Vals (permV is vs) (permU is us)
  | [] => .nil
  | i :: is => .cons (Vals.getD r i) (Vals.perm r is)
theorem Reps.getD {K : PySem.W.Frag} {F : Hp} {ps : List PV} {vs : List V} (r : Reps K F ps vs) (i : Nat) : Rep K F (ps.getD i .non) (vs.getD i .non) := by
  by_cases h : i < ps.length
  · obtain ⟨v, e1, e2⟩ := r.get (List.getElem?_eq_getElem h)
    simp only [List.getD, e1, List.getElem?_eq_getElem h, Option.getD_some]
    exact e2
  · have h2 : ¬ i < vs.length := by rw [← r.length]; exact h
    simp only [List.getD, List.getElem?_eq_none (Nat.le_of_not_lt h), List.getElem?_eq_none (Nat.le_of_not_lt h2), Option.getD_none]
    exact Rep.non
theorem Reps.perm {K : PySem.W.Frag} {F : Hp} {ps : List PV} {vs : List V} (r : Reps K F ps vs) : ∀ is : List Nat, Reps K F (permP is ps) (permV is vs)
  | [] => Reps.nil
  | i :: is => Reps.cons (Reps.getD r i) (Reps.perm r is)
/-- the values of the keywords -/
@[irreducible] def WK (X : Cx) (kws : List Keyword) : TA := fun σ H Q => ∀ (pos : Pos) (pins : List (Addr × Obj)) (s : Shared), Inv X pins σ H s → wpAny (model X.prog X.w) X.A (evalAll ((backToKw pos (keywordEach kws X.env)).map (·.2))) (AP X pins σ Q) X.xe s
section
variable {X : Cx} {W : WX} {pos : Pos}
theorem pk_wk {kws : List Keyword} : PK X kws (WK X kws) := ⟨fun pos pins s _ _ _ I h => by unfold WK at h; exact h pos pins s I⟩
theorem wk_of {kws : List Keyword} {t : TA} {σ : St} {H : Hp} {Q : List V → Hp → Prop} (p : PK X kws t) (h : t σ H Q) : WK X kws σ H Q := by unfold WK; exact fun pos pins s I => p.run pos pins s σ H Q I h
def SndK (X : Cx) (W : WX) (kws : List Keyword) (m : MA) : Prop :=
  ∀ (F : Hp) (ρ : Rho) (σ : St) (H : Hp) (Q : List V → Hp → Prop), Good X.K F ρ σ H → Post (repA X.K) X W F ρ σ H (m ρ) Q → WK X kws σ H Q
theorem sk_nil : SndK X W [] (mArgs []) := fun F ρ σ H Q g hp => wk_of pk_nil (show Q [] H from hp F H [] Stp.refl g Reps.nil)
theorem sk_cons {nm : Option Str} {e : Expr} {kp : Pos} {kws : List Keyword} {m : M} {ms : List M} (ha : SndE X W e m) (hr : SndK X W kws (mArgs ms)) : SndK X W (⟨nm, e, kp⟩ :: kws) (mArgs (m :: ms)) := fun F ρ σ H Q g hp => by
  refine wk_of (pk_cons pe_we pk_wk) ?_
  unfold mArgs at hp
  refine ha.then g hp fun F1 ρ1 H1 p x _ g1 rp hp1 => ?_
  refine hr F1 ρ1 σ H1 _ g1 (Post.bind hp1 fun F2 ρ2 H2 ps xs st2 g2 rps hp2 => ?_)
  exact hp2 F2 H2 _ Stp.refl g2 (Reps.cons (Rep.mono st2.ff _ _ rp) rps)
def tCallKS (sp : Sp) (is : List Nat) (E : St → XK) (tk : TA) : TE := fun σ H Q => tk σ H fun zs H2 => sp (permV is zs) H2 Q (E σ)
theorem pe_callKS {CX : CXT} {k : Nat} {f : Addr} {fd : FuncData} {ps ks : List Str} {sp : Sp} {E : St → XK} {x : Str} {p : Pos} {kws : List Keyword} {tk : TA} {is : List Nat} (F : FnG X.prog X.w X.K X.mg X.base CX k f fd ps sp) (hr : Room k X.A) (gd : X.A.guards = some []) (hg : Gl X x) (hm : X.mg x = some (.ref f)) (hk : PySem.W.keepIn X.K (.ref f) = true)
    (hb : ∀ (s : Shared) (ws : List Value), ws.length = ks.length → BindsTo s fd ⟨[], ks.zip ws⟩ (ps.zip (permU is ws))) (hx : ∀ σ, PassesAt CX X σ (E σ)) (hn : kws.length = ks.length) (hkl : ∀ σ H Q, tk σ H Q → tk σ H fun zs H2 => zs.length = ks.length ∧ Q zs H2)
    (hkw : PK X kws tk) (hall : (backToKw pos (keywordEach kws X.env)).all (·.1.isSome) = true := by rfl) (hks : (backToKw pos (keywordEach kws X.env)).filterMap (·.1) = ks := by rfl) (hdb : (x == ("__debug__" : Str)) = false := by decide)
    (hpl : ((backTo pos (starEach [] X.env)).any (·.1) || (backToKw pos (keywordEach kws X.env)).any (·.1.isNone)) = false := by rfl) :
    PE X (.Call (.Name x p) [] kws pos) (tCallKS sp is E tk) := by
  refine ⟨fun pins s σ H Q I h => ?_⟩
  refine wpAny_Call_Name_kw (ld_glob I hg hm ?_ hdb)
  refine PySem.W.callWith_KW0 (h₀ := X.base) I.ok.mod.kin hk hall (thn (hkw.run pos pins s σ H _ I (hkl σ H _ h)) fun ws s2 ⟨zs, H2, I2, rz, hl, q2⟩ => ⟨I2.kIn, ?_⟩) hpl
  rw [hks]
  have r2 := Vals.perm rz is
  refine wpAny_call (codeAny_mono (F.run X.A X.stack s2 H2 ⟨[], ks.zip ws⟩ (permU is ws) (permV is zs) Q (E σ) hr gd I2.env0 (hb s2 ws (by rw [← rz.length]; exact hl)) r2 q2) fun r s' hq => ?_)
  cases r with
  | error e => exact hx σ pins H2 s2 e s' I2 hq
  | ok fl =>
    cases fl with
    | ret u => exact I2.after hq
    | next => exact False.elim hq
    | brk => exact False.elim hq
    | cont => exact False.elim hq
def mCallK (f : FP) (is : List Nat) (ms : List M) : M := fun ρ => (mArgs ms ρ).bnd fun ps ρ1 => match f (permP is ps) with
  | .ok p => .ok (p, ρ1)
  | .exc x => .exc x ρ1
  | .bad => .bad
theorem s_callK {k n : Nat} {fa : Addr} {fd : FuncData} {ps ks : List Str} {x : Str} {p : Pos} {kws : List Keyword} {ms : List M} {is : List Nat} {f : FP} (c : Ctx X W) (G : FnG X.prog X.w X.K X.mg X.base (L2.CX X.prog X.w) k fa fd ps (spP X.K X.mg n f)) (hr : Room k X.A) (hg : Gl X x) (hm : X.mg x = some (.ref fa)) (hk : PySem.W.keepIn X.K (.ref fa) = true)
    (hb : ∀ (s : Shared) (ws : List Value), ws.length = ks.length → BindsTo s fd ⟨[], ks.zip ws⟩ (ps.zip (permU is ws)))
    (ha : SndK X W kws (mArgs ms)) (hn : is.length = n := by rfl) (hms : ms.length = ks.length := by rfl) (hkn : kws.length = ks.length := by rfl) (hall : (backToKw pos (keywordEach kws X.env)).all (·.1.isSome) = true := by rfl) (hks : (backToKw pos (keywordEach kws X.env)).filterMap (·.1) = ks := by rfl) (hdb : (x == ("__debug__" : Str)) = false := by decide)
    (hpl : ((backTo pos (starEach [] X.env)).any (·.1) || (backToKw pos (keywordEach kws X.env)).any (·.1.isNone)) = false := by rfl) :
    SndE X W (.Call (.Name x p) [] kws pos) (mCallK f is ms) := fun F ρ σ H Q g hp => by
  refine we_of (pe_callKS (tk := fun σ H Q => WK X kws σ H fun zs H2 => zs.length = ks.length ∧ Q zs H2) (E := fun σ cls d H => W cls d σ H) G hr c.gd hg hm hk hb (fun σ => passAt c.tk σ) hkn (fun σ H Q h => ?_) ?_ hall hks hdb hpl) ?_
  · unfold WK at h ⊢
    exact fun pos pins s I => thn (h pos pins s I) fun us s' ⟨xs, H', I', r, l, q⟩ => ⟨xs, H', I', r, l, l, q⟩
  · exact ⟨fun pos pins s σ H Q I h => thn (pk_wk.run pos pins s σ H _ I h) fun us s' ⟨xs, H', I', r, l, q⟩ => ⟨xs, H', I', r, q⟩⟩
  refine ha F ρ σ H _ g ?_
  match hm : mArgs ms ρ, hp with
  | .exc x ρ', hp => exact (by unfold mCallK at hp; rw [hm] at hp; exact hp)
  | .bad, hp => exact (by unfold mCallK at hp; rw [hm] at hp; exact hp)
  | .ok (qs, ρ1), hp =>
  unfold mCallK at hp
  rw [hm] at hp
  intro F1 H1 vs st g1 rp
  replace hp := Post.next st hp
  have len := mArgs_len hm
  refine ⟨by rw [← Reps.length rp, len]; exact hms, by simp [permV]; exact hn, F1, permP is qs, g1.sub, Reps.perm rp is, ?_⟩
  simp only [Res.bnd_ok] at hp
  cases hf : f (permP is qs) with
  | ok z =>
    rw [hf] at hp
    intro F' H' v a b c' d r
    obtain ⟨g', st'⟩ := g1.after a b c' d
    exact hp F' H' v st' g' r
  | exc y =>
    rw [hf] at hp
    intro F' H' cls d a b c' n' r
    obtain ⟨g', st'⟩ := g1.after a b c' n'
    exact hp F' H' cls d st' g' r
  | bad => rw [hf] at hp; exact hp
def mCallKF (f : FF) (is : List Nat) (ms : List M) : MF := fun ρ => (mArgs ms ρ).bnd fun ps ρ1 => match f (permP is ps) with
  | .ok p => .ok (p, ρ1)
  | .exc x => .exc x ρ1
  | .bad => .bad
theorem f_callK {k n : Nat} {fa : Addr} {fd : FuncData} {ps ks : List Str} {x : Str} {p : Pos} {kws : List Keyword} {ms : List M} {is : List Nat} {f : FF} (c : Ctx X W) (G : FnG X.prog X.w X.K X.mg X.base (L2.CX X.prog X.w) k fa fd ps (spF X.K X.mg n f)) (hr : Room k X.A) (hg : Gl X x) (hm : X.mg x = some (.ref fa)) (hk : PySem.W.keepIn X.K (.ref fa) = true)
    (hb : ∀ (s : Shared) (ws : List Value), ws.length = ks.length → BindsTo s fd ⟨[], ks.zip ws⟩ (ps.zip (permU is ws)))
    (ha : SndK X W kws (mArgs ms)) (hn : is.length = n := by rfl) (hms : ms.length = ks.length := by rfl) (hkn : kws.length = ks.length := by rfl) (hall : (backToKw pos (keywordEach kws X.env)).all (·.1.isSome) = true := by rfl) (hks : (backToKw pos (keywordEach kws X.env)).filterMap (·.1) = ks := by rfl) (hdb : (x == ("__debug__" : Str)) = false := by decide)
    (hpl : ((backTo pos (starEach [] X.env)).any (·.1) || (backToKw pos (keywordEach kws X.env)).any (·.1.isNone)) = false := by rfl) :
    SndF X W (.Call (.Name x p) [] kws pos) (mCallKF f is ms) := fun F ρ σ H Q g hp => by
  refine we_of (pe_callKS (tk := fun σ H Q => WK X kws σ H fun zs H2 => zs.length = ks.length ∧ Q zs H2) (E := fun σ cls d H => W cls d σ H) G hr c.gd hg hm hk hb (fun σ => passAt c.tk σ) hkn (fun σ H Q h => ?_) ?_ hall hks hdb hpl) ?_
  · unfold WK at h ⊢
    exact fun pos pins s I => thn (h pos pins s I) fun us s' ⟨xs, H', I', r, l, q⟩ => ⟨xs, H', I', r, l, l, q⟩
  · exact ⟨fun pos pins s σ H Q I h => thn (pk_wk.run pos pins s σ H _ I h) fun us s' ⟨xs, H', I', r, l, q⟩ => ⟨xs, H', I', r, q⟩⟩
  refine ha F ρ σ H _ g ?_
  match hm : mArgs ms ρ, hp with
  | .exc x ρ', hp => exact (by unfold mCallKF at hp; rw [hm] at hp; exact hp)
  | .bad, hp => exact (by unfold mCallKF at hp; rw [hm] at hp; exact hp)
  | .ok (qs, ρ1), hp =>
  unfold mCallKF at hp
  rw [hm] at hp
  intro F1 H1 vs st g1 rp
  replace hp := Post.next st hp
  have len := mArgs_len hm
  refine ⟨by rw [← Reps.length rp, len]; exact hms, by simp [permV]; exact hn, F1, permP is qs, g1.sub, Reps.perm rp is, ?_⟩
  simp only [Res.bnd_ok] at hp
  cases hf : f (permP is qs) with
  | ok z =>
    rw [hf] at hp
    intro F' H' a' ws a b c' d na fa' ha' r
    obtain ⟨g', st'⟩ := g1.after a b c' d
    refine hp F' H' _ st' g' ⟨a', ws, rfl, na, fa', fun i xs e z => ?_, ha', r⟩
    obtain ⟨a2, vs2, e1, e2, e3, e4⟩ := g1.own i xs e
    rw [e1] at z
    cases z
    rw [na] at e3
    cases e3
  | exc y =>
    rw [hf] at hp
    intro F' H' cls d a b c' n' r
    obtain ⟨g', st'⟩ := g1.after a b c' n'
    exact hp F' H' cls d st' g' r
  | bad => rw [hf] at hp; exact hp
/-! f(a new list, ..): f may change it, it is nobody's behind -/
def mCallBxF (f : FB) (mf : MF) (ms : List M) : M := fun ρ => (mf ρ).bnd fun xs ρ1 => (mArgs ms ρ1).bnd fun ps ρ2 => match f xs ps with
  | .ok p _ => .ok (p, ρ2)
  | .exc x _ => .exc x ρ2
  | .bad => .bad
theorem s_callBxF {k n : Nat} {fa : Addr} {fd : FuncData} {ps : List Str} {x : Str} {p : Pos} {e : Expr} {es : List Expr} {ms : List M} {f : FB} {mf : MF} (c : Ctx X W) (G : FnG X.prog X.w X.K X.mg X.base (L2.CX X.prog X.w) k fa fd ps (spB X.K X.mg n f)) (hr : Room k X.A) (hg : Gl X x) (hm : X.mg x = some (.ref fa)) (hk : PySem.W.keepIn X.K (.ref fa) = true) (hb : Binds X.K fd ps [])
    (h : SndF X W e mf) (ha : SndA X W es (mArgs ms)) (hn : ms.length = n := by rfl) (hdb : (x == ("__debug__" : Str)) = false := by decide) (he : starEach (e :: es) X.env = (false, eval e X.env) :: starEach es X.env := by rfl) (hpl : (backTo pos (starEach es X.env)).any (·.1) = false := by rfl) :
    SndE X W (.Call (.Name x p) (e :: es) [] pos) (mCallBxF f mf ms) := fun F ρ σ H Q g hp => by
  refine we_of (pe_callG (E := fun σ cls d H => W cls d σ H) G hr c.gd hg hm hk hb (fun σ => passAt c.tk σ) (pa_cons pe_we pa_wa he) hdb he hpl) ?_
  unfold mCallBxF at hp
  refine h F ρ σ H _ g ?_
  cases hmf : mf ρ with
  | bad => rw [hmf] at hp; exact hp.elim
  | exc y ρ1 => rw [hmf] at hp; exact hp
  | ok z =>
  obtain ⟨xs, ρ1⟩ := z
  rw [hmf] at hp
  simp only [Res.bnd_ok] at hp
  intro F1 H1 v st1 g1 rv
  obtain ⟨b, bs, rfl, hb0, fb1, no1, hb1, rb1⟩ := rv
  refine ha F1 ρ1 σ H1 _ g1 ?_
  cases hma : mArgs ms ρ1 with
  | bad => rw [hma] at hp; exact hp.elim
  | exc y ρ2 => rw [hma] at hp; exact fun F' H' cls d st2 g2 ex => hp F' H' cls d (st1.trans st2) g2 ex
  | ok z =>
  obtain ⟨qs, ρ2⟩ := z
  rw [hma] at hp
  simp only [Res.bnd_ok] at hp
  intro F2 H2 vs st2 g2 rp
  have len := mArgs_len hma
  have fb2 : F2 b = none := st2.nf b _ hb1 fb1 no1
  have hb2 : H2 b = some (.lst bs) := st2.kp b _ hb1 no1
  have no2 : NotOwn ρ2 σ b := no1.sub st2.os
  have st := st1.trans st2
  refine ⟨by rw [List.append_nil, List.length_cons, ← Reps.length rp, len, hn], F2, b, bs, xs, qs, vs, by rw [List.append_nil], g2.sub, fb2, hb2, Reps.mono st2.ff _ _ rb1, rp, ?_⟩
  have aft : ∀ {F' H' : Hp} {bs' : List V}, Same F2 F' → Same F' H' → F' b = none → H' b = some (.lst bs') → SameBut b H2 H' → NewFB b H2 F2 F' → Good X.K F' ρ2 σ H' ∧ Stp σ F ρ H F' ρ2 H' := fun {F' H' bs'} ff fh fb hbb hh nw => by
    refine ⟨⟨fh, g2.len, fun i q e => ?_, fun i ys e => ?_, g2.apart⟩, ⟨st.ff.trans ff, st.os, fun q o e n => ?_, fun q o e f n => ?_, fun q e => ?_⟩⟩
    · obtain ⟨v, e1, e2⟩ := g2.val i q e
      exact ⟨v, e1, Rep.mono ff _ _ e2⟩
    · obtain ⟨a, ws, e1, e2, e3, e4⟩ := g2.own i ys e
      have nb : a ≠ b := fun z => no2 i ys e (by rw [e1, z])
      exact ⟨a, ws, e1, nw a _ nb e3 e2, hh _ _ nb e3, Reps.mono ff _ _ e4⟩
    · have nb : q ≠ b := ne_of_none e hb0
      exact hh q o nb (st.kp q o e n)
    · have nb : q ≠ b := ne_of_none e hb0
      exact nw q o nb (st.kp q o e n) (st.nf q o e f n)
    · refine st.ex q ?_
      cases h : H2 q with
      | none => rfl
      | some o =>
        by_cases z : q = b
        · rw [z, hbb] at e; cases e
        · rw [hh q o z h] at e; cases e
  cases hf : f xs qs with
  | ok z ys =>
    rw [hf] at hp
    intro F' H' v bs' a1 a2 a3 a4 a5 a6 a7 r
    obtain ⟨g', st'⟩ := aft a1 a2 a3 a4 a6 a7
    exact hp F' H' v st' g' r
  | exc y ys =>
    rw [hf] at hp
    intro F' H' cls d bs' a1 a2 a3 a4 a5 a6 a7 r
    obtain ⟨g', st'⟩ := aft a1 a2 a3 a4 a6 a7
    exact hp F' H' cls d st' g' r
  | bad => rw [hf] at hp; exact hp
end
end Ev

set_option Elab.async false
set_option linter.all false
set_option maxRecDepth 100000
namespace Ev
open PySem L2
/-! ### repr of lists, tuples -/
mutual
/-- ints not too long -/
def shwP : PV → Bool
  | .int i => decide (i.natAbs.log2 < 1920)
  | .tup xs => shwPs xs
  | .lst xs => shwPs xs
  | _ => true
def shwPs : List PV → Bool
  | [] => true
  | x :: xs => shwP x && shwPs xs
end
mutual
/-- at least as long as its text -/
def wtP : PV → Nat
  | .int _ => 1921
  | .str x => (reprText x).length
  | .tup xs => 4 + wtPs xs
  | .lst xs => 4 + wtPs xs
  | _ => 5
def wtPs : List PV → Nat
  | [] => 0
  | x :: xs => wtP x + 2 + wtPs xs
end
mutual
theorem shwP_d : ∀ p : PV, shwP p = true → (pvD p).showable = true
  | .non, _ => rfl
  | .bl _, _ => rfl
  | .int i, h => by simpa [shwP, pvD, PyData.showable] using h
  | .str x, _ => rfl
  | .tup xs, h => by simp only [pvD, PyData.showable]; exact shwPs_d xs (by simpa [shwP] using h)
  | .lst xs, h => by simp only [pvD, PyData.showable]; exact shwPs_d xs (by simpa [shwP] using h)
  | .dic _ _, _ => rfl
  | .scr _, _ => rfl
  | .ty _, _ => rfl
theorem shwPs_d : ∀ ps : List PV, shwPs ps = true → PyData.showableAll (pvDs ps) = true
  | [], _ => rfl
  | p :: ps, h => by
    simp only [shwPs, Bool.and_eq_true] at h
    simp only [pvDs, PyData.showableAll, Bool.and_eq_true]
    exact ⟨shwP_d p h.1, shwPs_d ps h.2⟩
end
mutual
theorem nodict_d : ∀ p : PV, (pvD p).hasDict = false
  | .non => rfl
  | .bl _ => rfl
  | .int i => rfl
  | .str x => rfl
  | .tup xs => by simp only [pvD, PyData.hasDict]; exact nodict_ds xs
  | .lst xs => by simp only [pvD, PyData.hasDict]; exact nodict_ds xs
  | .dic _ _ => rfl
  | .scr _ => rfl
  | .ty _ => rfl
theorem nodict_ds : ∀ ps : List PV, PyData.hasDictAll (pvDs ps) = false
  | [] => rfl
  | p :: ps => by simp only [pvDs, PyData.hasDictAll, nodict_d p, nodict_ds ps]; rfl
end
theorem listText_le (ts : List Str) : (listText ts).length ≤ 4 + piled ts := by
  cases ts with
  | nil => decide +kernel
  | cons t r =>
    have h := textFrom_length_pos r 1 ("[" ++ (if 0 > 0 then ", " else "" : String) ++ t) (Nat.succ_pos 0)
    show (textFrom 0 "[" (t :: r) ++ ("]" : Str)).length ≤ _
    rw [Str.length_append]
    show (textFrom 1 ("[" ++ (if 0 > 0 then ", " else "" : String) ++ t) r).length + _ ≤ _
    rw [h, piled_cons]
    simp only [Str.length_append]
    have e1 : (("[" : Str)).length = 1 := by decide +kernel
    have e2 : (((if (0 : Nat) > 0 then ", " else "" : String) : Str)).length = 0 := by decide +kernel
    have e3 : (("]" : Str)).length = 1 := by decide +kernel
    rw [e1, e2, e3]
    omega
theorem tupleText_le (ts : List Str) : (tupleText ts).length ≤ 4 + piled ts := by
  unfold tupleText
  simp only [Str.length_append]
  have e1 : (("(" : Str)).length = 1 := by decide +kernel
  have e2 : (((if ts.length == 1 then ",)" else ")" : String) : Str)).length ≤ 2 := by split <;> decide +kernel
  have e3 : (Str.join ", " ts).length ≤ piled ts := by
    by_cases h : ts = []
    · subst h; decide +kernel
    · have := join_length_add ts h; omega
  omega
mutual
theorem wtP_d : ∀ p : PV, shwP p = true → (pvD p).shown.length ≤ wtP p
  | .non, _ => by simp only [pvD, PyData.shown, wtP]; decide +kernel
  | .bl b, _ => by simp only [pvD, PyData.shown, wtP]; cases b <;> decide +kernel
  | .int i, h => by
    simp only [shwP, decide_eq_true_eq] at h
    simp only [pvD, PyData.shown, wtP]
    exact PyProof.Rows.int_text_len_1921 h
  | .str x, _ => by simp only [pvD, PyData.shown, wtP]; exact Nat.le_refl _
  | .tup xs, h => by
    simp only [pvD, PyData.shown, wtP]
    have := wtPs_d xs (by simpa [shwP] using h)
    exact Nat.le_trans (tupleText_le _) (by omega)
  | .lst xs, h => by
    simp only [pvD, PyData.shown, wtP]
    have := wtPs_d xs (by simpa [shwP] using h)
    exact Nat.le_trans (listText_le _) (by omega)
  | .dic _ _, _ => by simp only [pvD, PyData.shown, wtP]; decide +kernel
  | .scr _, _ => by simp only [pvD, PyData.shown, wtP]; decide +kernel
  | .ty _, _ => by simp only [pvD, PyData.shown, wtP]; decide +kernel
theorem wtPs_d : ∀ ps : List PV, shwPs ps = true → piled (PyData.shownAll (pvDs ps)) ≤ wtPs ps
  | [], _ => by simp [pvDs, PyData.shownAll, piled_nil, wtPs]
  | p :: ps, h => by
    simp only [shwPs, Bool.and_eq_true] at h
    have h1 := wtP_d p h.1
    have h2 := wtPs_d ps h.2
    simp only [pvDs, PyData.shownAll, piled_cons, wtPs]
    omega
end
def pvRepr : PV → Option PV
  | .lst xs => if okD 12 (.lst xs) = true ∧ shwP (.lst xs) = true ∧ wtP (.lst xs) ≤ sizeLine then some (.str (pvD (.lst xs)).shown) else none
  | .tup xs => if okD 12 (.tup xs) = true ∧ shwP (.tup xs) = true ∧ wtP (.tup xs) ≤ sizeLine then some (.str (pvD (.tup xs)).shown) else none
  | _ => none
section
variable {X : Cx} {W : WX} {p pos : Pos} {e : Expr} {m : M}
def rRepr (K : PySem.W.Frag) : List V → Hp → VK → Prop := fun xs H Q => ∃ a d, xs = [.ref a] ∧ Dp K H (.ref a) d ∧ d.showable = true ∧ d.hasDict = false ∧ d.depth ≤ 12 ∧ d.shown.length ≤ sizeLine ∧ Q (.str d.shown) H
theorem call_reprD (hu : X.A.units + 64 < cLine) (gd : X.A.guards = some []) : CallR X (.builtin "repr") (rRepr X.K) := by
  intro pins s σ H xs us Q I r h
  obtain ⟨a, d, rfl, dp, h1, h2, h3, h4, q⟩ := h
  obtain ⟨u, rfl, e⟩ := vals1 r
  have e' : u = .ref a := e
  subst e'
  obtain ⟨as, rd⟩ := Dp.reads I d _ _ dp rfl
  refine repr_of_reads' rd h1 (fun z => by rw [h2] at z; cases z) gd (by omega) (fun _ _ z => z) (fun h' u tk hk => ?_) h4
  exact ⟨.str _, H, I.kept hk, ⟨_, rfl⟩, q⟩
theorem repr_op : CallOp X W (rRepr X.K) (on1 pvRepr) := fun F ρ σ H vs ps z Q g rp ez hp => by
  match ps, ez with
  | [p], ez =>
    obtain ⟨v, r, rfl, rv, r0⟩ := rp.inv
    rw [r0.inv0]
    have ez' : pvRepr p = some z := ez
    have go : ∀ (p : PV) (a : Addr), v = .ref a → okD 12 p = true ∧ shwP p = true ∧ wtP p ≤ sizeLine → Rep X.K F p v → z = .str (pvD p).shown → rRepr X.K [v] H Q := fun p a ea c rv ez => by
      subst ea ez
      obtain ⟨dp, _, dd⟩ := okD_dp 12 p _ c.1 (Rep.mono g.sub _ _ rv)
      exact ⟨a, pvD p, rfl, dp, shwP_d p c.2.1, nodict_d p, dd, Nat.le_trans (wtP_d p c.2.1) c.2.2, hp F H _ Stp.refl g Rep.str⟩
    cases p with
    | lst xs =>
      simp only [pvRepr] at ez'
      split at ez'
      · rename_i c
        cases ez'
        have rv' := rv
        unfold Rep at rv'
        obtain ⟨a, _, ea, _⟩ := rv'
        exact go _ a ea c rv rfl
      · cases ez'
    | tup xs =>
      simp only [pvRepr] at ez'
      split at ez'
      · rename_i c
        cases ez'
        have rv' := rv
        unfold Rep at rv'
        obtain ⟨a, _, ea, _⟩ := rv'
        exact go _ a ea c rv rfl
      · cases ez'
    | _ => cases ez'
theorem s_repr (c : Ctx X W) (hg : Gl X "repr") (hm : X.mg "repr" = none) (ha : SndE X W e m) (he : starEach [e] X.env = [(false, eval e X.env)] := by rfl) : SndE X W (.Call (.Name "repr" p) [e] [] pos) (mCallB (on1 pvRepr) [m]) :=
  s_callOf (pe_callB (call_reprD c.hu c.gd) hg hm (by decide +kernel) pa_wa (by decide) (by decide) he rfl) repr_op (sa_cons ha sa_nil he)
end
end Ev

set_option Elab.async false
set_option linter.all false
set_option maxRecDepth 100000
namespace Ev
open PySem L2
section
variable {X : Cx} {W : WX} {pos : Pos} {b : Option Addr}
/-! ### more that changes a list of one's own -/
def mReverse (i : Nat) : MS := fun ρ => match ρ[i]? with
  | some (.own xs) => .nx (ρ.set i (.own xs.reverse))
  | _ => .bad
theorem st_reverse {x : Str} {p0 apos cpos : Pos} (i : Nat) (h : PE X (.Name x p0) (tVar i))
    (hbase : attributeBase (.Name x p0) "reverse" X.env (eval (.Name x p0) X.env) = eval (.Name x p0) X.env := by rfl) (hline : (apos.endLine == cpos.line) = true := by rfl)
    (hsw : swapsWith (.Call (.Attribute (.Name x p0) "reverse" apos) [] [] cpos) none pos.line X.env = pure false := by rfl) :
    SndS X W b (.Expr (.Call (.Attribute (.Name x p0) "reverse" apos) [] [] cpos) pos) (mReverse i) := fun H0 F0 F ρ σ H D f g hp => by
  refine ws_of (ps_expr (pe_bm0 PySem.F.plainAttrs_list PySem.F.slot_list_reverse PySem.F.type_list_reverse mt_reverse h hbase hline) hsw) ?_
  unfold mReverse at hp
  split at hp
  · rename_i xs e0
    obtain ⟨a, vs, ea, fa, ha, rv⟩ := g.own i xs e0
    obtain ⟨g2, s2⟩ := g.write e0 ea rv.reverse
    exact ⟨.ref a, ea, .inl ⟨rfl, _, SqL.of ha⟩, a, vs, rfl, rfl, ha, hp F σ _ (f.step s2) g2⟩
  · exact hp.elim
def mClear (i : Nat) : MS := fun ρ => match ρ[i]? with
  | some (.own _) => .nx (ρ.set i (.own []))
  | _ => .bad
theorem st_clear {x : Str} {p0 apos cpos : Pos} (i : Nat) (h : PE X (.Name x p0) (tVar i))
    (hbase : attributeBase (.Name x p0) "clear" X.env (eval (.Name x p0) X.env) = eval (.Name x p0) X.env := by rfl) (hline : (apos.endLine == cpos.line) = true := by rfl)
    (hsw : swapsWith (.Call (.Attribute (.Name x p0) "clear" apos) [] [] cpos) none pos.line X.env = pure false := by rfl) :
    SndS X W b (.Expr (.Call (.Attribute (.Name x p0) "clear" apos) [] [] cpos) pos) (mClear i) := fun H0 F0 F ρ σ H D f g hp => by
  refine ws_of (ps_expr (pe_bm0 PySem.F.plainAttrs_list PySem.F.slot_list_clear PySem.F.type_list_clear mt_clear h hbase hline) hsw) ?_
  unfold mClear at hp
  split at hp
  · rename_i xs e0
    obtain ⟨a, vs, ea, fa, ha, rv⟩ := g.own i xs e0
    obtain ⟨g2, s2⟩ := g.write e0 ea Reps.nil
    exact ⟨.ref a, ea, .inl ⟨rfl, _, SqL.of ha⟩, a, vs, rfl, rfl, ha, hp F σ _ (f.step s2) g2⟩
  · exact hp.elim
def mExtend (i : Nat) (m : M) : MS := fun ρ => match ρ[i]? with
  | some (.own _) => (m ρ).sr fun p ρ1 => match ρ1[i]?, p with
    | some (.own xs), .lst ys => if xs.length + ys.length ≤ sizeLine then .nx (ρ1.set i (.own (xs ++ ys))) else .bad
    | _, _ => .bad
  | _ => .bad
theorem st_extend {x : Str} {p0 apos cpos : Pos} {e : Expr} {m : M} (i : Nat) (h : PE X (.Name x p0) (tVar i)) (he : SndE X W e m)
    (hbase : attributeBase (.Name x p0) "extend" X.env (eval (.Name x p0) X.env) = eval (.Name x p0) X.env := by rfl)
    (hfew : ((backTo cpos (starEach [e] X.env)).all (fun x => !x.1) && (backToKw cpos (keywordEach [] X.env)).all (fun x => x.1.isSome)
      && decide (([e] : List Expr).length + ([] : List Keyword).length + (if ([] : List Keyword).isEmpty then 0 else 1) < 30)) = true := by rfl)
    (hline : (apos.endLine == cpos.line) = true := by rfl) (hs : starEach [e] X.env = [(false, eval e X.env)] := by rfl)
    (hsw : swapsWith (.Call (.Attribute (.Name x p0) "extend" apos) [e] [] cpos) none pos.line X.env = pure false := by rfl) :
    SndS X W b (.Expr (.Call (.Attribute (.Name x p0) "extend" apos) [e] [] cpos) pos) (mExtend i m) := fun H0 F0 F ρ σ H D f g hp => by
  refine ws_of (ps_expr (pe_bm PySem.F.plainAttrs_list PySem.F.slot_list_extend PySem.F.type_list_extend mt_extend h (pa_cons pe_we pa_nil hs) hbase hfew hline hs rfl) hsw) ?_
  unfold mExtend at hp
  split at hp
  · rename_i xs0 e0
    obtain ⟨a, vs0, ea, _, ha0, _⟩ := g.own i xs0 e0
    refine ⟨.ref a, ea, .inl ⟨rfl, _, SqL.of ha0⟩, ?_⟩
    refine he F ρ σ H _ g (Post.sr f hp fun F1 ρ1 H1 p v _ f1 g1 r hp1 => ?_)
    split at hp1
    · rename_i xs ys e1
      obtain ⟨a', vs, ea', fa, ha, rv⟩ := g1.own i xs e1
      rw [ea] at ea'
      cases ea'
      split at hp1
      · rename_i hl
        have r' : Rep X.K F1 (.lst ys) v := r
        unfold Rep at r'
        obtain ⟨q, ws, rfl, hq, rw'⟩ := r'
        obtain ⟨g2, s2⟩ := g1.write e1 ea (rv.append rw')
        exact ⟨a, q, vs, ws, rfl, rfl, ha, g1.sub _ _ hq, by rw [← rv.length, ← rw'.length]; exact hl, hp1 F1 σ _ (f1.step s2) g2⟩
      · exact hp1.elim
    · exact hp1.elim
  · exact hp.elim
/-- name.pop(e), its value of no use -/
def mPopAt (i : Nat) (m : M) : MS := fun ρ => match ρ[i]? with
  | some (.own _) => (m ρ).sr fun p ρ1 => match ρ1[i]?, p with
    | some (.own xs), .int k => match ixN xs.length k with
      | some j => if -(2 ^ 63) ≤ k ∧ k < 2 ^ 63 then .nx (ρ1.set i (.own (xs.eraseIdx j))) else .bad
      | none => .bad
    | _, _ => .bad
  | _ => .bad
theorem Reps.erase {K : PySem.W.Frag} {F : Hp} : ∀ {ps : List PV} {vs : List V} (n : Nat), Reps K F ps vs → Reps K F (ps.eraseIdx n) (vs.eraseIdx n)
  | [], vs, n, a => by rw [a.inv0]; simpa using Reps.nil
  | q :: ps, vs, 0, a => by
    obtain ⟨w, r, rfl, x, y⟩ := a.inv
    simpa using y
  | q :: ps, vs, n + 1, a => by
    obtain ⟨w, r, rfl, x, y⟩ := a.inv
    simpa using Reps.cons x (Reps.erase n y)
theorem st_popAt {x : Str} {p0 apos cpos : Pos} {e : Expr} {m : M} (i : Nat) (h : PE X (.Name x p0) (tVar i)) (he : SndE X W e m)
    (hbase : attributeBase (.Name x p0) "pop" X.env (eval (.Name x p0) X.env) = eval (.Name x p0) X.env := by rfl)
    (hfew : ((backTo cpos (starEach [e] X.env)).all (fun x => !x.1) && (backToKw cpos (keywordEach [] X.env)).all (fun x => x.1.isSome)
      && decide (([e] : List Expr).length + ([] : List Keyword).length + (if ([] : List Keyword).isEmpty then 0 else 1) < 30)) = true := by rfl)
    (hline : (apos.endLine == cpos.line) = true := by rfl) (hs : starEach [e] X.env = [(false, eval e X.env)] := by rfl)
    (hsw : swapsWith (.Call (.Attribute (.Name x p0) "pop" apos) [e] [] cpos) none pos.line X.env = pure false := by rfl) :
    SndS X W b (.Expr (.Call (.Attribute (.Name x p0) "pop" apos) [e] [] cpos) pos) (mPopAt i m) := fun H0 F0 F ρ σ H D f g hp => by
  refine ws_of (ps_expr (pe_bm PySem.F.plainAttrs_list PySem.F.slot_list_pop PySem.F.type_list_pop mt_popAt h (pa_cons pe_we pa_nil hs) hbase hfew hline hs rfl) hsw) ?_
  unfold mPopAt at hp
  split at hp
  · rename_i xs0 e0
    obtain ⟨a, vs0, ea, _, ha0, _⟩ := g.own i xs0 e0
    refine ⟨.ref a, ea, .inl ⟨rfl, _, SqL.of ha0⟩, ?_⟩
    refine he F ρ σ H _ g (Post.sr f hp fun F1 ρ1 H1 p v _ f1 g1 r hp1 => ?_)
    split at hp1
    · rename_i xs k e1
      obtain ⟨a', vs, ea', fa, ha, rv⟩ := g1.own i xs e1
      rw [ea] at ea'
      cases ea'
      split at hp1
      · rename_i j ej
        split at hp1
        · rename_i hk
          obtain ⟨s1, s2, _, _⟩ := ixN_seq ej
          have r' : Rep X.K F1 (.int k) v := r
          unfold Rep at r'
          subst r'
          obtain ⟨y, ey, _⟩ := rv.get (List.getElem?_eq_getElem s2)
          obtain ⟨g2, t2⟩ := g1.write e1 ea (rv.erase j)
          exact ⟨a, vs, k, j, y, rfl, rfl, ha, hk.1, hk.2, by rw [← rv.length]; exact s1, ey, hp1 F1 σ _ (f1.step t2) g2⟩
        · exact hp1.elim
      · exact hp1.elim
    · exact hp1.elim
  · exact hp.elim
/-- name.insert(e, e2) -/
def mInsert (i : Nat) (m m' : M) : MS := fun ρ => match ρ[i]? with
  | some (.own _) => (m ρ).sr fun p ρ1 => (m' ρ1).sr fun q ρ2 => match ρ2[i]?, p with
    | some (.own xs), .int k => if 0 ≤ k ∧ k < 2 ^ 63 ∧ xs.length < sizeLine then .nx (ρ2.set i (.own (xs.take k.toNat ++ [q] ++ xs.drop k.toNat))) else .bad
    | _, _ => .bad
  | _ => .bad
theorem st_insert {x : Str} {p0 apos cpos : Pos} {e e2 : Expr} {m m' : M} (i : Nat) (h : PE X (.Name x p0) (tVar i)) (he : SndE X W e m) (he2 : SndE X W e2 m')
    (hbase : attributeBase (.Name x p0) "insert" X.env (eval (.Name x p0) X.env) = eval (.Name x p0) X.env := by rfl)
    (hfew : ((backTo cpos (starEach [e, e2] X.env)).all (fun x => !x.1) && (backToKw cpos (keywordEach [] X.env)).all (fun x => x.1.isSome)
      && decide (([e, e2] : List Expr).length + ([] : List Keyword).length + (if ([] : List Keyword).isEmpty then 0 else 1) < 30)) = true := by rfl)
    (hline : (apos.endLine == cpos.line) = true := by rfl) (hs : starEach [e, e2] X.env = (false, eval e X.env) :: starEach [e2] X.env := by rfl) (hs2 : starEach [e2] X.env = [(false, eval e2 X.env)] := by rfl)
    (hpl : (backTo cpos (starEach [e2] X.env)).any (·.1) = false := by rfl)
    (hsw : swapsWith (.Call (.Attribute (.Name x p0) "insert" apos) [e, e2] [] cpos) none pos.line X.env = pure false := by rfl) :
    SndS X W b (.Expr (.Call (.Attribute (.Name x p0) "insert" apos) [e, e2] [] cpos) pos) (mInsert i m m') := fun H0 F0 F ρ σ H D f g hp => by
  refine ws_of (ps_expr (pe_bm PySem.F.plainAttrs_list PySem.F.slot_list_insert PySem.F.type_list_insert mt_insert h (pa_cons pe_we (pa_cons pe_we pa_nil hs2) hs) hbase hfew hline hs hpl) hsw) ?_
  unfold mInsert at hp
  split at hp
  · rename_i xs0 e0
    obtain ⟨a, vs0, ea, _, ha0, _⟩ := g.own i xs0 e0
    refine ⟨.ref a, ea, .inl ⟨rfl, _, SqL.of ha0⟩, ?_⟩
    refine he F ρ σ H _ g (Post.sr f hp fun F1 ρ1 H1 p v _ f1 g1 r hp1 => ?_)
    refine he2 F1 ρ1 σ H1 _ g1 (Post.sr f1 hp1 fun F2 ρ2 H2 q u st2 f2 g2 r2 hp2 => ?_)
    split at hp2
    · rename_i xs k e1
      obtain ⟨a', vs, ea', fa, ha, rv⟩ := g2.own i xs e1
      rw [ea] at ea'
      cases ea'
      split at hp2
      · rename_i hk
        have r' : Rep X.K F1 (.int k) v := r
        unfold Rep at r'
        subst r'
        obtain ⟨g3, t3⟩ := g2.write e1 ea (((rv.take k.toNat).append (Reps.cons r2 Reps.nil)).append (rv.drop k.toNat))
        exact ⟨a, vs, k, u, rfl, rfl, ha, by rw [← rv.length]; exact hk.2.2, hk.1, hk.2.1, hp2 F2 σ _ (f2.step t3) g3⟩
      · exact hp2.elim
    · exact hp2.elim
  · exact hp.elim
end
/-! ### a def that changes nothing, of a list of one's own -/
def atomP : PV → Bool
  | .non => true
  | .bl _ => true
  | .int _ => true
  | .str _ => true
  | _ => false
def mCallBr (f : FP) (i : Nat) (ms : List M) : M := fun ρ => match ρ[i]? with
  | some (.own _) => (mArgs ms ρ).bnd fun ps ρ1 => match ρ1[i]? with
    | some (.own xs) => match f (.lst xs :: ps) with
      | .ok p => if atomP p = true then .ok (p, ρ1) else .bad
      | _ => .bad
    | _ => .bad
  | _ => .bad
section
variable {X : Cx} {W : WX} {pos : Pos} {k n : Nat} {fa : Addr} {fd : FuncData} {ps : List Str} {x : Str} {p : Pos} {es : List Expr} {ms : List M}
theorem Rep.atom {K : PySem.W.Frag} {F F' : Hp} {z : PV} {v : V} (h : atomP z = true) (r : Rep K F z v) : Rep K F' z v := by
  cases z <;> first | (unfold Rep at r ⊢; exact r) | cases h
/-- lent, and taken back -/
theorem Good.lent {K : PySem.W.Frag} {F F' H H' : Hp} {ρ : Rho} {σ : L2.St} {i : Nat} {xs : List PV} {a : Addr} {vs : List V} (g : Good K F ρ σ H) (hi : ρ[i]? = some (.own xs)) (hs : σ[i]? = some (some (.ref a))) (fa : F a = none) (ha : H a = some (.lst vs)) (rv : Reps K F xs vs)
    (ff : Same (upd F a (.lst vs)) F') (fh : Same F' H') (hh : Same H H') (nw : NewF H (upd F a (.lst vs)) F') :
    Good K (fun q => if q = a then none else F' q) ρ σ H' ∧ Stp σ F ρ H (fun q => if q = a then none else F' q) ρ H' := by
  have ne : ∀ {q : Addr} {o : HO}, F q = some o → q ≠ a := fun {q o} e z => by rw [z, fa] at e; cases e
  have sF : Same F (fun q => if q = a then none else F' q) := fun q o e => by
    have nq := ne e
    show (if q = a then none else F' q) = _
    rw [if_neg nq]
    exact ff q o (by rw [upd_ne nq]; exact e)
  have ha' : H' a = some (.lst vs) := hh _ _ ha
  refine ⟨⟨fun q o e => ?_, g.len, fun j z e => ?_, fun j zs e => ?_, g.apart⟩, ⟨sF, fun _ zs e => ⟨zs, e⟩, fun q o e _ => hh q o e, fun q o e f _ => ?_, fun q e => hh.free e⟩⟩
  · by_cases z : q = a
    · have e' : (if q = a then none else F' q) = some o := e
      rw [if_pos z] at e'; cases e'
    · have e' : (if q = a then none else F' q) = some o := e
      rw [if_neg z] at e'; exact fh q o e'
  · obtain ⟨v, e1, e2⟩ := g.val j z e
    exact ⟨v, e1, Rep.mono sF _ _ e2⟩
  · obtain ⟨b, us, e1, e2, e3, e4⟩ := g.own j zs e
    refine ⟨b, us, e1, ?_, hh _ _ e3, Reps.mono sF _ _ e4⟩
    by_cases z : b = a
    · exact if_pos z
    · show (if b = a then none else F' b) = none
      rw [if_neg z]
      exact nw b _ e3 (by rw [upd_ne z]; exact e2)
  · by_cases z : q = a
    · exact if_pos z
    · show (if q = a then none else F' q) = none
      rw [if_neg z]
      exact nw q o e (by rw [upd_ne z]; exact f)
theorem s_callBr {f : FP} {y : Str} {p0 : Pos} (i : Nat) (c : Ctx X W) (G : FnG X.prog X.w X.K X.mg X.base (L2.CX X.prog X.w) k fa fd ps (spP X.K X.mg n f)) (hr : Room k X.A) (hg : Gl X x) (hm : X.mg x = some (.ref fa)) (hk : PySem.W.keepIn X.K (.ref fa) = true) (hb : Binds X.K fd ps [])
    (h : PE X (.Name y p0) (tVar i)) (ha : SndA X W es (mArgs ms)) (hn : ms.length + 1 = n := by rfl) (hdb : (x == ("__debug__" : Str)) = false := by decide) (he : starEach (.Name y p0 :: es) X.env = (false, eval (.Name y p0) X.env) :: starEach es X.env := by rfl) (hpl : (backTo pos (starEach es X.env)).any (·.1) = false := by rfl) :
    SndE X W (.Call (.Name x p) (.Name y p0 :: es) [] pos) (mCallBr f i ms) := fun F ρ σ H Q g hp => by
  refine we_of (pe_callG (E := fun σ cls d H => W cls d σ H) G hr c.gd hg hm hk hb (fun σ => passAt c.tk σ) (pa_cons h pa_wa he) hdb he hpl) ?_
  unfold mCallBr at hp
  split at hp
  · rename_i xs0 e0
    obtain ⟨a, _, ea, _⟩ := g.own i xs0 e0
    refine ⟨.ref a, ea, ?_⟩
    refine ha.thenL g hp fun F1 ρ1 H1 qs vs st g1 rp len hp1 => ?_
    split at hp1
    · rename_i xs e1
      obtain ⟨a', us, ea', fa, haa, rv⟩ := g1.own i xs e1
      rw [ea] at ea'
      cases ea'
      have sF : Same F1 (L2.upd F1 a (.lst us)) := Same.upd fa
      have sH : Same (L2.upd F1 a (.lst us)) H1 := fun q o e => by
        by_cases z : q = a
        · rw [z, upd_same] at e; rw [z, haa]; exact e
        · rw [upd_ne z] at e; exact g1.sub q o e
      refine ⟨by rw [List.append_nil, List.length_cons, ← rp.length, len]; exact hn, L2.upd F1 a (.lst us), .lst xs :: qs, sH, by rw [List.append_nil]; exact Reps.cons (by unfold Rep; exact ⟨a, us, rfl, upd_same, Reps.mono sF _ _ rv⟩) (Reps.mono sF _ _ rp), ?_⟩
      cases hf : f (.lst xs :: qs) with
      | ok z =>
        rw [hf] at hp1
        simp only at hp1
        split at hp1
        · rename_i at1
          intro F' H' v b1 b2 b3 b4 r
          obtain ⟨g', st'⟩ := g1.lent e1 ea fa haa rv b1 b2 b3 b4
          exact hp1 _ H' v st' g' (Rep.atom at1 r)
        · exact hp1.elim
      | exc y => rw [hf] at hp1; exact hp1.elim
      | bad => rw [hf] at hp1; exact hp1.elim
    · exact hp1.elim
  · exact hp.elim
end
/-! ### name == e, name != e, of a list of one's own -/
def mCmpN (neg : Bool) (i : Nat) (m : M) : MT := fun ρ => match ρ[i]? with
  | some (.own _) => (m ρ).bnd fun q ρ1 => match ρ1[i]? with
    | some (.own xs) => if (okD 12 (.lst xs) && okD 12 q) = true then .ok (Bool.xor neg (PyData.eqv (pvD (.lst xs)) (pvD q)), ρ1) else .bad
    | _ => .bad
  | some (.val p) => (m ρ).bnd fun q ρ1 => if (okD 12 p && okD 12 q) = true then .ok (Bool.xor neg (PyData.eqv (pvD p) (pvD q)), ρ1) else .bad
  | _ => .bad
section
variable {X : Cx} {W : WX} {pos : Pos} {x : Str} {p0 : Pos} {b : Expr} {mb : M}
theorem we_mono {e : Expr} {σ : L2.St} {H : Hp} {Q Q' : VK} (q : WE X e σ H Q) (k : ∀ v H, Q v H → Q' v H) : WE X e σ H Q' := by
  unfold WE at q ⊢
  exact fun pins s I => thn (q pins s I) fun u s' ⟨v, H', I', r, h⟩ => ⟨v, H', I', r, k _ _ h⟩
theorem cmpN_run {neg : Bool} (i : Nat) (hb : SndE X W b mb) {F : Hp} {ρ : Rho} {σ : L2.St} {H : Hp} {Q : Bool → Hp → Prop} (g : Good X.K F ρ σ H) (hp : Post repT X W F ρ σ H (mCmpN neg i mb ρ) Q) :
    ∃ v, σ[i]? = some (some v) ∧ WE X b σ H fun y H2 => ∃ d e, Dp X.K H2 v d ∧ Dp X.K H2 y e ∧ SeqAt.shaped d = true ∧ SeqAt.shaped e = true ∧ Q (Bool.xor neg (PyData.eqv d e)) H2 := by
  unfold mCmpN at hp
  have fin : ∀ (F1 : Hp) (p q : PV) (v y : V) (H1 : Hp), (okD 12 p && okD 12 q) = true → Rep X.K H1 p v → Rep X.K H1 q y → Q (Bool.xor neg (PyData.eqv (pvD p) (pvD q))) H1 →
      ∃ d e, Dp X.K H1 v d ∧ Dp X.K H1 y e ∧ SeqAt.shaped d = true ∧ SeqAt.shaped e = true ∧ Q (Bool.xor neg (PyData.eqv d e)) H1 := fun F1 p q v y H1 ok rp rq hq => by
    rw [Bool.and_eq_true] at ok
    exact ⟨_, _, (okD_dp 12 p v ok.1 rp).1, (okD_dp 12 q y ok.2 rq).1, shaped_of ok.1 rp, shaped_of ok.2 rq, hq⟩
  split at hp
  · rename_i xs0 e0
    obtain ⟨a, _, ea, _⟩ := g.own i xs0 e0
    refine ⟨.ref a, ea, ?_⟩
    refine hb.then g hp fun F1 ρ1 H1 q y st g1 rq hp1 => ?_
    split at hp1
    · rename_i xs e1
      obtain ⟨a', us, ea', fa, ha, rv⟩ := g1.own i xs e1
      rw [ea] at ea'
      cases ea'
      split at hp1
      · rename_i ok
        refine fin F1 (.lst xs) q (.ref a) y H1 ok ?_ (Rep.mono g1.sub _ _ rq) (hp1 F1 H1 _ Stp.refl g1 rfl)
        unfold Rep
        exact ⟨a, us, rfl, ha, Reps.mono g1.sub _ _ rv⟩
      · exact hp1.elim
    · exact hp1.elim
  · rename_i p e0
    obtain ⟨v, ev, rp⟩ := g.val i p e0
    refine ⟨v, ev, ?_⟩
    refine hb.then g hp fun F1 ρ1 H1 q y st g1 rq hp1 => ?_
    split at hp1
    · rename_i ok
      exact fin F1 p q v y H1 ok (Rep.mono g1.sub _ _ (Rep.mono st.ff _ _ rp)) (Rep.mono g1.sub _ _ rq) (hp1 F1 H1 _ Stp.refl g1 rfl)
    · exact hp1.elim
  · exact hp.elim
theorem t_eqN (i : Nat) (h : PE X (.Name x p0) (tVar i)) (hb : SndE X W b mb) (hu : X.A.units + 64 < cLine) : SndT X W (.Compare (.Name x p0) [.Eq] [b] pos) (mCmpN false i mb) := fun F ρ σ H Q g hp => by
  refine wt_of (pt_cmpR (op_eqD hu) h pe_we (nomark _)) ?_
  obtain ⟨v, ev, q⟩ := cmpN_run i hb g hp
  refine ⟨v, ev, we_mono q fun y H2 ⟨d, e, a1, a2, a3, a4, a5⟩ => ⟨d, e, a1, a2, a3, a4, _, rfl, by simpa using a5⟩⟩
theorem t_neN (i : Nat) (h : PE X (.Name x p0) (tVar i)) (hb : SndE X W b mb) (hu : X.A.units + 64 < cLine) : SndT X W (.Compare (.Name x p0) [.NotEq] [b] pos) (mCmpN true i mb) := fun F ρ σ H Q g hp => by
  refine wt_of (pt_cmpR (op_neD hu) h pe_we (nomark _)) ?_
  obtain ⟨v, ev, q⟩ := cmpN_run i hb g hp
  refine ⟨v, ev, we_mono q fun y H2 ⟨d, e, a1, a2, a3, a4, a5⟩ => ⟨d, e, a1, a2, a3, a4, _, rfl, by simpa using a5⟩⟩
end
/-! ### sum(name), and what is never come to -/
def mSumN (i : Nat) : M := fun ρ => Res.of ((slotV ρ i).bind pvSum) ρ
def mNever : MS := fun _ => .bad
section
variable {X : Cx} {W : WX} {pos p p0 : Pos} {x : Str} {b : Option Addr}
theorem st_never {st : Stmt} : SndS X W b st mNever := fun H0 F0 F ρ σ H D f g hp => hp.elim
theorem s_sumN (i : Nat) (hc : X.calm = true) (hg : Gl X "sum") (hm : X.mg "sum" = none) (h : PE X (.Name x p0) (tVar i)) (he : starEach [.Name x p0] X.env = [(false, eval (.Name x p0) X.env)] := by rfl) : SndE X W (.Call (.Name "sum" p) [.Name x p0] [] pos) (mSumN i) := fun F ρ σ H Q g hp => by
  refine we_of (pe_callB ((cr_sum hc).or (cr_sumT hc)) hg hm (by decide +kernel) (pa_cons h pa_nil he) (by decide) (by decide) he rfl) ?_
  unfold mSumN at hp
  obtain ⟨z, ez⟩ := hp.some
  cases e : slotV ρ i with
  | none => rw [e] at ez; cases ez
  | some q =>
    rw [e] at ez hp
    simp only [Option.bind_some] at ez hp
    rw [ez] at hp
    obtain ⟨v, ev, rv⟩ := g.slot e
    refine ⟨v, ev, ?_⟩
    unfold pvSum at ez
    split at ez
    · rename_i xs
      cases e1 : intsP xs with
      | none => rw [e1] at ez; cases ez
      | some ns =>
        rw [e1] at ez
        cases ez
        rw [intsP_of e1] at rv
        unfold Rep at rv
        obtain ⟨a, ws, rfl, h1, h2⟩ := rv
        rw [Reps.ints] at h2
        subst h2
        exact .inl ⟨a, ns, rfl, SqL.of h1, hp F H _ Stp.refl g Rep.int⟩
    · rename_i xs
      cases e1 : intsP xs with
      | none => rw [e1] at ez; cases ez
      | some ns =>
        rw [e1] at ez
        cases ez
        rw [intsP_of e1] at rv
        unfold Rep at rv
        obtain ⟨a, ws, rfl, h1, h2⟩ := rv
        rw [Reps.ints] at h2
        subst h2
        exact .inr ⟨a, ns, rfl, SqT.of h1, hp F H _ Stp.refl g Rep.int⟩
    · cases ez
end
/-! ### max, min of a list or of a tuple -/
def pvMax1 : List PV → Option PV
  | [.tup xs] => (intsP xs).bind fun ns => (maxL ns).map .int
  | ps => pvMax ps
def pvMin1 : List PV → Option PV
  | [.tup xs] => (intsP xs).bind fun ns => (minL ns).map .int
  | ps => pvMin ps
def rMaxT (K : PySem.W.Frag) : List V → Hp → VK → Prop := fun vs H Q => ∃ (a : Addr) (n : Int) (ns : List Int), vs = [V.ref a] ∧ SqT K H a ((n :: ns).map V.int) ∧ Q (.int (ns.foldl max n)) H
def rMinT (K : PySem.W.Frag) : List V → Hp → VK → Prop := fun vs H Q => ∃ (a : Addr) (n : Int) (ns : List Int), vs = [V.ref a] ∧ SqT K H a ((n :: ns).map V.int) ∧ Q (.int (ns.foldl min n)) H
theorem reads_ints (h : Heap) : ∀ {ns : List Int} {us : List Value}, Vals (ns.map V.int) us → ReadsAll h us (ns.map PyData.int) []
  | [], us, r => by cases r; exact .nil
  | n :: ns, us, r => by
    cases r with
    | cons a b =>
      obtain ⟨t, rfl⟩ := a
      exact ReadsAll.cons (as := []) (bs := []) (.int n t) (reads_ints h b)
theorem depth_ints : ∀ ns : List Int, PyData.depthAll (ns.map PyData.int) ≤ 1
  | [] => by simp [PyData.depthAll]
  | n :: ns => by
    have := depth_ints ns
    simp only [List.map_cons, PyData.depthAll, PyData.depth]
    omega
theorem alike_ints (ns : List Int) : PySem.W.AlikeAll (ns.map PyData.int) := by
  constructor
  · intro x hx y hy
    obtain ⟨a, _, rfl⟩ := List.mem_map.mp hx
    obtain ⟨b, _, rfl⟩ := List.mem_map.mp hy
    rfl
  · intro x hx
    obtain ⟨a, _, rfl⟩ := List.mem_map.mp hx
    intro z; cases z
section
variable {X : Cx} {W : WX} {pos p : Pos} {e : Expr} {m : M}
theorem cr_maxT (hc : X.calm = true) (hu : X.A.units + 64 < cLine) : CallR X (.builtin "max") (rMaxT X.K) := by
  intro pins s σ H vs us Q I r h
  obtain ⟨a, n, ns, rfl, hs, q⟩ := h
  obtain ⟨its, rv, hl, _⟩ := I.tuple hs
  rw [Vals.ref1 r]
  have hr := reads_ints s.heap rv
  have hd := depth_ints (n :: ns)
  rw [List.map_cons] at hr hd
  refine PySem.W.max_tuple_data (I.ok.hd hc) hl (x := .int n) (xs := ns.map .int) (as := []) (by simpa using hr) (alike_ints (n :: ns)) (by omega) fun i v h' tk bs hv rd hk => ?_
  rw [PySem.W.maxD_ints] at rd
  cases rd with
  | int _ t => exact ⟨.int _, H, I.kept hk, ⟨t, rfl⟩, q⟩
theorem cr_minT (hc : X.calm = true) (hu : X.A.units + 64 < cLine) : CallR X (.builtin "min") (rMinT X.K) := by
  intro pins s σ H vs us Q I r h
  obtain ⟨a, n, ns, rfl, hs, q⟩ := h
  obtain ⟨its, rv, hl, _⟩ := I.tuple hs
  rw [Vals.ref1 r]
  have hr := reads_ints s.heap rv
  have hd := depth_ints (n :: ns)
  rw [List.map_cons] at hr hd
  refine PySem.W.min_tuple_data (I.ok.hd hc) hl (x := .int n) (xs := ns.map .int) (as := []) (by simpa using hr) (alike_ints (n :: ns)) (by omega) fun i v h' tk bs hv rd hk => ?_
  rw [PySem.W.minD_ints] at rd
  cases rd with
  | int _ t => exact ⟨.int _, H, I.kept hk, ⟨t, rfl⟩, q⟩
theorem maxT_op {r : List V → Hp → VK → Prop} (h0 : CallOp X W r pvMax) : CallOp X W (fun xs H Q => r xs H Q ∨ rMaxT X.K xs H Q) pvMax1 := fun F ρ σ H vs ps z Q g rp e hp => by
  by_cases ht : ∃ xs, ps = [.tup xs]
  · obtain ⟨xs, rfl⟩ := ht
    have e' : ((intsP xs).bind fun ns => (maxL ns).map PV.int) = some z := e
    cases e1 : intsP xs with
    | none => rw [e1] at e'; cases e'
    | some ns =>
      rw [e1] at e'
      cases ns with
      | nil => cases e'
      | cons n ns =>
        cases e'
        obtain ⟨v, rfl, rv⟩ := rp.one
        rw [intsP_of e1] at rv
        unfold Rep at rv
        obtain ⟨a, ws, rfl, h1, h2⟩ := rv
        rw [Reps.ints] at h2
        subst h2
        exact .inr ⟨a, n, ns, rfl, SqT.of (g.sub _ _ h1), hp F H _ Stp.refl g Rep.int⟩
  · have e' : pvMax ps = some z := by
      unfold pvMax1 at e
      split at e
      · exact absurd ⟨_, rfl⟩ ht
      · exact e
    exact .inl (h0 F ρ σ H vs ps z Q g rp e' hp)
theorem minT_op {r : List V → Hp → VK → Prop} (h0 : CallOp X W r pvMin) : CallOp X W (fun xs H Q => r xs H Q ∨ rMinT X.K xs H Q) pvMin1 := fun F ρ σ H vs ps z Q g rp e hp => by
  by_cases ht : ∃ xs, ps = [.tup xs]
  · obtain ⟨xs, rfl⟩ := ht
    have e' : ((intsP xs).bind fun ns => (minL ns).map PV.int) = some z := e
    cases e1 : intsP xs with
    | none => rw [e1] at e'; cases e'
    | some ns =>
      rw [e1] at e'
      cases ns with
      | nil => cases e'
      | cons n ns =>
        cases e'
        obtain ⟨v, rfl, rv⟩ := rp.one
        rw [intsP_of e1] at rv
        unfold Rep at rv
        obtain ⟨a, ws, rfl, h1, h2⟩ := rv
        rw [Reps.ints] at h2
        subst h2
        exact .inr ⟨a, n, ns, rfl, SqT.of (g.sub _ _ h1), hp F H _ Stp.refl g Rep.int⟩
  · have e' : pvMin ps = some z := by
      unfold pvMin1 at e
      split at e
      · exact absurd ⟨_, rfl⟩ ht
      · exact e
    exact .inl (h0 F ρ σ H vs ps z Q g rp e' hp)
theorem s_maxA (c : Ctx X W) (hg : Gl X "max") (hm : X.mg "max" = none) (ha : SndE X W e m) (he : starEach [e] X.env = [(false, eval e X.env)] := by rfl) : SndE X W (.Call (.Name "max" p) [e] [] pos) (mCallB pvMax1 [m]) :=
  s_callOf (pe_callB (((call_max2 c.calm).or (cr_max c.calm)).or (cr_maxT c.calm c.hu)) hg hm (by decide +kernel) pa_wa (by decide) (by decide) he rfl) (maxT_op max_op) (sa_cons ha sa_nil he)
theorem s_minA (c : Ctx X W) (hg : Gl X "min") (hm : X.mg "min" = none) (ha : SndE X W e m) (he : starEach [e] X.env = [(false, eval e X.env)] := by rfl) : SndE X W (.Call (.Name "min" p) [e] [] pos) (mCallB pvMin1 [m]) :=
  s_callOf (pe_callB (((call_min2 c.calm).or (cr_min c.calm)).or (cr_minT c.calm c.hu)) hg hm (by decide +kernel) pa_wa (by decide) (by decide) he rfl) (minT_op min_op) (sa_cons ha sa_nil he)
end
end Ev

set_option Elab.async false
set_option linter.all false
set_option maxRecDepth 100000
set_option maxHeartbeats 1000000
/-! zip of three lists, tuples -/
namespace Ev
open PySem L2
def Itz3 (K : PySem.W.Frag) (ta tc td : Bool) (a c d : Addr) : It :=
  ⟨fun i H => ∃ (xs ys zs : List V) (x y z : V), SqB K H ta a xs ∧ SqB K H tc c ys ∧ SqB K H td d zs ∧ xs[i]? = some x ∧ ys[i]? = some y ∧ zs[i]? = some z,
   fun i H v H' => ∃ T x y z, v = .ref T ∧ H T = none ∧ H' = upd H T (.tup [x, y, z]) ∧ (∀ xs, SqB K H ta a xs → xs[i]? = some x) ∧ (∀ ys, SqB K H tc c ys → ys[i]? = some y) ∧ ∀ zs, SqB K H td d zs → zs[i]? = some z,
   fun i H => ∃ xs ys zs : List V, SqB K H ta a xs ∧ SqB K H tc c ys ∧ SqB K H td d zs ∧ i ≤ xs.length ∧ i ≤ ys.length ∧ i ≤ zs.length ∧ (i = xs.length ∨ i = ys.length ∨ i = zs.length)⟩
theorem turn_zip3 {P : Program} {w : World} {K : PySem.W.Frag} {elts : List Expr} {kk : Nat} {tpos : Pos} {ta tc td : Bool} {a c d z TI TO i1 i2 i3 : Addr} (S : ZipSep3 z TI TO i1 i2 i3 [i1, a] [i2, c] [i3, d]) (na : a ≠ i1) (nc : c ≠ i2) (nd : d ≠ i3) :
    Turn P w K (.Tuple elts kk tpos) (Itz3 K ta tc td a c d) [z, TI, TO, i1, i2, i3] z (fun i h => ZB false h z TI TO .none ∧ IsTupOf3 h TI (.ref i1) (.ref i2) (.ref i3) ∧ (∃ x y u, IsTupOf3 h TO x y u) ∧ ItB h ta i1 a i ∧ ItB h tc i2 c i ∧ ItB h td i3 d i) where
  mem := by simp
  obj := fun i h st q hc => by
    obtain ⟨hz, hTI, ⟨x, y, u, hTO⟩, t1, t2, t3⟩ := st
    have e' : q = z ∨ q = TI ∨ q = TO ∨ q = i1 ∨ q = i2 ∨ q = i3 := by simpa using hc
    rcases e' with rfl | rfl | rfl | rfl | rfl | rfl
    · exact ⟨_, hz, fun v q => nomatch q⟩
    · exact ⟨_, hTI, fun v q => nomatch q⟩
    · exact ⟨_, hTO, fun v q => nomatch q⟩
    · exact itB_obj t1
    · exact itB_obj t2
    · exact itB_obj t3
  keep := fun i h h' st k => by
    obtain ⟨hz, hTI, ⟨x, y, u, hTO⟩, t1, t2, t3⟩ := st
    exact ⟨k z (by simp) _ hz, k TI (by simp) _ hTI, ⟨x, y, u, k TO (by simp) _ hTO⟩, itB_at t1 fun o q => k i1 (by simp) o q, itB_at t2 fun o q => k i2 (by simp) o q, itB_at t3 fun o q => k i3 (by simp) o q⟩
  item := by
    intro X hP hw hK hc i pins s σ H E I hf st hg
    subst hP hw hK
    obtain ⟨hz, hTI, ⟨x0, y0, u0, hTO⟩, t1, t2, t3⟩ := st
    obtain ⟨xs, ys, zs, x, y, u, hqx, hqy, hqz, hx, hy, hu⟩ := hg
    obtain ⟨its, rv, p⟩ := seB I hqx
    obtain ⟨its2, rv2, p2⟩ := seB I hqy
    obtain ⟨its3, rv3, p3⟩ := seB I hqz
    obtain ⟨u1, hu1, ru1⟩ := rv.get hx
    obtain ⟨u2, hu2, ru2⟩ := rv2.get hy
    obtain ⟨u3, hu3, ru3⟩ := rv3.get hu
    have hh : X.A.in1.handled = none := I.ok.hd hc
    have l1 : i < its.toArray.size := by simpa using (List.getElem?_eq_some_iff.mp hu1).1
    have l2 : i < its2.toArray.size := by simpa using (List.getElem?_eq_some_iff.mp hu2).1
    have l3 : i < its3.toArray.size := by simpa using (List.getElem?_eq_some_iff.mp hu3).1
    have hzl : z < s.heap.objs.size := Heap.lt_size hz
    refine wpAny_pyNext_zipD3_item S (drB hh ta i1 a na its.toArray) (drB hh tc i2 c nc its2.toArray) (drB hh td i3 d nd its3.toArray) hz hTI hTO ⟨t1, p⟩ ⟨t2, p2⟩ ⟨t3, p3⟩ l1 l2 l3 fun v1 v2 v3 h' tk e1 e2 e3 z' TO' q1 q2 q3 tT tsz hk => ?_
    obtain rfl : v1 = u1 := by simpa [hu1] using e1.symm
    obtain rfl : v2 = u2 := by simpa [hu2] using e2.symm
    obtain rfl : v3 = u3 := by simpa [hu3] using e3.symm
    refine ⟨_, rfl, goB (s := { s with heap := h', toks := tk }) false z' fun h'' z'' sb => ?_⟩
    have tT2 : h''.get? s.heap.objs.size = some { cls := .type "tuple", data := .seq #[v1, v2, v3] } := (sb.2 _ (Nat.ne_of_gt hzl)).trans tT
    have new : ObjOk X.prog X.w (L2.upd H s.heap.objs.size (.tup [x, y, u])) h'' s.heap.objs.size (.tup [x, y, u]) := ⟨by show 3 ≤ sizeLine; decide, [v1, v2, v3], .cons ru1 (.cons ru2 (.cons ru3 .nil)), ⟨_, tT2, rfl, _, rfl⟩⟩
    have I1 : Inv X pins σ (L2.upd H s.heap.objs.size (.tup [x, y, u])) { s with heap := h'', toks := tk } :=
      I.turnedNew (t' := tk) (ch := [z, TI, TO, i1, i2, i3]) (fun c o hb q => (sb.2 c (fun q' => hb (by simp [q']))).trans (hk c o (fun q' => hb (by simp [q'])) (fun q' => hb (by simp [q'])) (fun q' => hb (by simp [q'])) (fun q' => hb (by simp [q'])) (fun q' => hb (by simp [q'])) q)) hf (Nat.le_refl _) new
    refine ⟨.ref s.heap.objs.size, _, I1, rfl, ⟨_, x, y, u, rfl, I.hok.fresh (Nat.le_refl _), rfl, fun l hl => by rw [seB_inj I hl hqx]; exact hx, fun l hl => by rw [seB_inj I hl hqy]; exact hy, fun l hl => by rw [seB_inj I hl hqz]; exact hu⟩, ⟨z'', ?_, ⟨v1, v2, v3, ?_⟩, ?_, ?_, ?_⟩, fun q hq => ?_⟩
    · exact (sb.2 _ S.TIz).trans (hk _ _ S.TIz S.TITO S.TIi1 S.TIi2 S.TIi3 hTI)
    · exact (sb.2 _ S.TOz).trans TO'
    · exact itB_at q1.1 fun o q => (sb.2 _ S.zi1.symm).trans q
    · exact itB_at q2.1 fun o q => (sb.2 _ S.zi2.symm).trans q
    · exact itB_at q3.1 fun o q => (sb.2 _ S.zi3.symm).trans q
    · have hlt : q < s.heap.objs.size := by
        have e' : q = z ∨ q = TI ∨ q = TO ∨ q = i1 ∨ q = i2 ∨ q = i3 := by simpa using hq
        rcases e' with rfl | rfl | rfl | rfl | rfl | rfl
        · exact hzl
        · exact Heap.lt_size hTI
        · exact Heap.lt_size hTO
        · obtain ⟨_, e1, _⟩ := itB_obj t1; exact Heap.lt_size e1
        · obtain ⟨_, e1, _⟩ := itB_obj t2; exact Heap.lt_size e1
        · obtain ⟨_, e1, _⟩ := itB_obj t3; exact Heap.lt_size e1
      rw [upd_ne (Nat.ne_of_lt hlt)]
      exact (hf q hq).1
  done := by
    intro X hP hw hK hc i pins s σ H E I hf st hg
    subst hP hw hK
    obtain ⟨hz, hTI, ⟨x0, y0, u0, hTO⟩, t1, t2, t3⟩ := st
    obtain ⟨xs, ys, zs, hqx, hqy, hqz, l1, l2, l3, le⟩ := hg
    obtain ⟨its, rv, p⟩ := seB I hqx
    obtain ⟨its2, rv2, p2⟩ := seB I hqy
    obtain ⟨its3, rv3, p3⟩ := seB I hqz
    have hh : X.A.in1.handled = none := I.ok.hd hc
    have n1 : its.toArray.size = xs.length := by simp [rv.length]
    have n2 : its2.toArray.size = ys.length := by simp [rv2.length]
    have n3 : its3.toArray.size = zs.length := by simp [rv3.length]
    exact wpAny_pyNext_zipD3_end S (drB hh ta i1 a na its.toArray) (drB hh tc i2 c nc its2.toArray) (drB hh td i3 d nd its3.toArray) hz hTI hTO ⟨t1, p⟩ ⟨t2, p2⟩ ⟨t3, p3⟩ (by omega) (by omega) (by omega) (by omega) fun h' tk hk => ⟨rfl, I.turnedL (t' := tk) (ch := [z, TI, TO, i1, i2, i3]) (fun c o hb q =>
      hk c o (fun q' => hb (by simp [q'])) (fun q' => hb (by simp [q'])) (fun q' => hb (by simp [q'])) (fun q' => hb (by simp [q'])) (fun q' => hb (by simp [q'])) q) hf⟩
  self := fun A i s Q E st h => iterB false st.1 h
def iZip3 (K : PySem.W.Frag) (ta : TA) : TI := fun σ H R => ta σ H fun vs H1 => ∃ (a c d : Addr) (t t' t'' : Bool) (xs ys zs : List V), vs = [.ref a, .ref c, .ref d] ∧ SqB K H1 t a xs ∧ SqB K H1 t' c ys ∧ SqB K H1 t'' d zs ∧ R (Itz3 K t t' t'' a c d) H1
theorem pie_zip3 {X : Cx} {pins : List (Addr × Obj)} {σ : St} {H1 : Hp} {s1 : Shared} {h' : Heap} {R : It → Hp → Prop} {t t' t'' : Bool} {a c d : Addr} {elts : List Expr} {kk : Nat} {tpos : Pos} (I1 : Inv X pins σ H1 s1) (ha : a < s1.heap.objs.size) (hc : c < s1.heap.objs.size) (hd : d < s1.heap.objs.size)
    (hz : ZB false h' (s1.heap.objs.size + 5) (s1.heap.objs.size + 3) (s1.heap.objs.size + 4) .none) (hTI : IsTupOf3 h' (s1.heap.objs.size + 3) (.ref s1.heap.objs.size) (.ref (s1.heap.objs.size + 1)) (.ref (s1.heap.objs.size + 2))) (hTO : IsTupOf3 h' (s1.heap.objs.size + 4) .none .none .none)
    (h1 : h'.get? s1.heap.objs.size = some (itO t a)) (h2 : h'.get? (s1.heap.objs.size + 1) = some (itO t' c)) (h3 : h'.get? (s1.heap.objs.size + 2) = some (itO t'' d)) (hk : ∀ c o, s1.heap.get? c = some o → h'.get? c = some o) (q : R (Itz3 X.K t t' t'' a c d) H1) :
    PIE X pins σ (.Tuple elts kk tpos) R (.ref (s1.heap.objs.size + 5)) { s1 with heap := h' } := by
  have fresh6 : ∀ q, q ∈ [s1.heap.objs.size + 5, s1.heap.objs.size + 3, s1.heap.objs.size + 4, s1.heap.objs.size, s1.heap.objs.size + 1, s1.heap.objs.size + 2] → FpOk X pins H1 q := fun q hq => by
    have hle : s1.heap.objs.size ≤ q := by
      simp only [List.mem_cons, List.not_mem_nil, or_false] at hq
      omega
    exact I1.fpOk hle (I1.hok.fresh hle)
  have I2 : Inv X pins σ H1 { s1 with heap := h' } := I1.kept (t' := s1.toks) hk
  exact ⟨s1.heap.objs.size + 5, [s1.heap.objs.size + 5, s1.heap.objs.size + 3, s1.heap.objs.size + 4, s1.heap.objs.size, s1.heap.objs.size + 1, s1.heap.objs.size + 2], _, _, H1, rfl, I2,
    turn_zip3 (zip_sep3 (fp1 := [a]) (fp2 := [c]) (fp3 := [d]) (by simpa using ha) (by simpa using hc) (by simpa using hd)) (Nat.ne_of_lt ha) (Nat.ne_of_lt (Nat.lt_succ_of_lt hc)) (Nat.ne_of_lt (Nat.lt_succ_of_lt (Nat.lt_succ_of_lt hd))), ⟨hz, hTI, ⟨_, _, _, hTO⟩, itB_new h1, itB_new h2, itB_new h3⟩, fresh6, q⟩
theorem pi_zip3 {X : Cx} {e e2 e3 : Expr} {ta : TA} {p pos tpos : Pos} {elts : List Expr} {kk : Nat} (hg : Gl X "zip") (hm : X.mg "zip" = none) (ha : PA X [e, e2, e3] ta)
    (hs : starEach [e, e2, e3] X.env = (false, eval e X.env) :: starEach [e2, e3] X.env := by rfl) (hpl : (backTo pos (starEach [e2, e3] X.env)).any (·.1) = false := by rfl) :
    PI X (.Tuple elts kk tpos) (.Call (.Name "zip" p) [e, e2, e3] [] pos) (iZip3 X.K ta) := by
  refine ⟨fun pins s σ H R I h => ?_⟩
  refine PyProof.Rows.Call_ (ld_blt I hg hm PyProof.Rows.boot_zip (PyProof.Rows.callWith_type1 (thn (ha.run pos pins s σ H _ I h) fun us s1 ⟨vs, H1, I1, r1, q1⟩ => ?_) hs hpl))
  obtain ⟨a, c, d, t, t', t'', xs, ys, zs, ex, hx, hy, hz, q⟩ := q1
  subst ex
  cases r1 with
  | cons r rr =>
    cases rr with
    | cons r' rr =>
      cases rr with
      | cons r'' rr =>
        cases rr
        cases r
        cases r'
        cases r''
        obtain ⟨its, rv, p1⟩ := seB I1 hx
        obtain ⟨its2, rv2, p2⟩ := seB I1 hy
        obtain ⟨its3, rv3, p3⟩ := seB I1 hz
        exact zip_begins3 (begB t a its.toArray) (begB t' c its2.toArray) (begB t'' d its3.toArray) p1 p2 p3 fun h' hz hTI hTO h1 h2 h3 hsz hk => iterB false hz (pie_zip3 I1 p1.lt p2.lt p3.lt hz hTI hTO h1 h2 h3 hk q)
/-! mirrors -/
def tripP (xs ys zs : List PV) : List PV := List.zipWith (fun x p => match p with | .tup l => .tup (x :: l) | _ => .non) xs (List.zipWith pairP ys zs)
theorem trip_len (xs ys zs : List PV) : (tripP xs ys zs).length = min xs.length (min ys.length zs.length) := by simp [tripP]
def pvZip3 : List PV → Option (List PV)
  | [p, q, r] => (pvSq p).bind fun xs => (pvSq q).bind fun ys => (pvSq r).map fun zs => tripP xs ys zs
  | _ => none
def mZip3 (ms : List M) : MI := fun ρ => (mArgs ms ρ).bnd fun ps ρ1 => Res.of (pvZip3 ps) ρ1
def YTrip (f g h : Nat → Option V) (i : Nat) (H : Hp) (v : V) (H' : Hp) : Prop := ∃ T x y z, v = .ref T ∧ H T = none ∧ H' = L2.upd H T (.tup [x, y, z]) ∧ f i = some x ∧ g i = some y ∧ h i = some z
theorem walk_zip3 {K : PySem.W.Frag} {t t' t'' : Bool} {a c d : Addr} {xs ys zs : List V} {n : Nat} (hn : n = min xs.length (min ys.length zs.length)) : Walk (Itz3 K t t' t'' a c d) n (fun H => SqB K H t a xs ∧ SqB K H t' c ys ∧ SqB K H t'' d zs) (YTrip (fun i => xs[i]?) (fun i => ys[i]?) (fun i => zs[i]?)) := by
  subst hn
  refine ⟨fun i _ hi q => ?_, fun _ q => ⟨xs, ys, zs, q.1, q.2.1, q.2.2, by omega, by omega, by omega, by omega⟩, fun i H v H' _ q y => ?_⟩
  · have h1 : i < xs.length := by omega
    have h2 : i < ys.length := by omega
    have h3 : i < zs.length := by omega
    exact ⟨xs, ys, zs, xs[i], ys[i], zs[i], q.1, q.2.1, q.2.2, by simp [h1], by simp [h2], by simp [h3]⟩
  · obtain ⟨T, x, u, z, h1, h2, h3, h4, h5, h6⟩ := y
    exact ⟨T, x, u, z, h1, h2, h3, h4 xs q.1, h5 ys q.2.1, h6 zs q.2.2⟩
theorem item_trip {K : PySem.W.Frag} {F F2 H2 H3 : Hp} {xs ys zs : List PV} {vs ws us : List V} {i : Nat} {p : PV} {v : V} (r1 : Reps K F xs vs) (r2 : Reps K F ys ws) (r3 : Reps K F zs us) (s1 : Same F F2) (s2 : Same F2 H2) (e : (tripP xs ys zs)[i]? = some p)
    (y : YTrip (fun i => vs[i]?) (fun i => ws[i]?) (fun i => us[i]?) i H2 v H3) : ItemAt K F2 H2 p v H3 := by
  obtain ⟨T, x, z, u, rfl, hT, rfl, hx, hz, hu⟩ := y
  unfold tripP at e
  rw [List.getElem?_zipWith, List.getElem?_zipWith] at e
  cases e1 : xs[i]? with
  | none => rw [e1] at e; cases e
  | some a =>
    cases e2 : ys[i]? with
    | none => rw [e1, e2] at e; cases e
    | some c =>
      cases e3 : zs[i]? with
      | none => rw [e1, e2, e3] at e; cases e
      | some d =>
        rw [e1, e2, e3] at e
        cases e
        obtain ⟨v1, h1, h2⟩ := r1.get e1
        obtain ⟨v2, h3, h4⟩ := r2.get e2
        obtain ⟨v3, h5, h6⟩ := r3.get e3
        rw [show vs[i]? = some x from hx] at h1
        rw [show ws[i]? = some z from hz] at h3
        rw [show us[i]? = some u from hu] at h5
        cases h1
        cases h3
        cases h5
        have sT : Same F2 (L2.upd F2 T (.tup [x, z, u])) := Same.upd (s2.free hT)
        refine .inr (.inl ⟨T, _, hT, rfl, ?_⟩)
        show Rep _ _ (.tup [a, c, d]) _
        unfold Rep
        exact ⟨T, _, rfl, upd_same, Reps.cons (Rep.mono sT _ _ (Rep.mono s1 _ _ h2)) (Reps.cons (Rep.mono sT _ _ (Rep.mono s1 _ _ h4)) (Reps.cons (Rep.mono sT _ _ (Rep.mono s1 _ _ h6)) Reps.nil))⟩
theorem Reps.three {K : PySem.W.Frag} {F : Hp} {p q r : PV} {vs : List V} (h : Reps K F [p, q, r] vs) : ∃ u v w, vs = [u, v, w] ∧ Rep K F p u ∧ Rep K F q v ∧ Rep K F r w := by
  match vs, h with
  | [], h => exact absurd h.length (by simp)
  | [_], h => exact absurd h.length (by simp)
  | [_, _], h => exact absurd h.length (by simp)
  | [u, v, w], h =>
    obtain ⟨a, ha, ra⟩ := h.get (i := 0) rfl
    obtain ⟨b, hb, rb⟩ := h.get (i := 1) rfl
    obtain ⟨c, hc, rc⟩ := h.get (i := 2) rfl
    cases ha
    cases hb
    cases hc
    exact ⟨u, v, w, rfl, ra, rb, rc⟩
  | _ :: _ :: _ :: _ :: _, h => exact absurd h.length (by simp)
section
variable {X : Cx} {W : WX} {pos : Pos}
theorem i_zip3 {p tpos : Pos} {e e2 e3 : Expr} {m m' m'' : M} {elts : List Expr} {kk : Nat} (hg : Gl X "zip") (hm : X.mg "zip" = none) (ha : SndE X W e m) (hb : SndE X W e2 m') (hc : SndE X W e3 m'') (hs : starEach [e, e2, e3] X.env = (false, eval e X.env) :: starEach [e2, e3] X.env := by rfl)
    (hs2 : starEach [e2, e3] X.env = (false, eval e2 X.env) :: starEach [e3] X.env := by rfl) (hs3 : starEach [e3] X.env = [(false, eval e3 X.env)] := by rfl)
    (hpl : (backTo pos (starEach [e2, e3] X.env)).any (·.1) = false := by rfl) : SndI X W (.Tuple elts kk tpos) (.Call (.Name "zip" p) [e, e2, e3] [] pos) (mZip3 [m, m', m'']) := fun F ρ σ H R g hp => by
  refine wi_of (pi_zip3 hg hm pa_wa hs hpl) ?_
  refine (sa_cons ha (sa_cons hb (sa_cons hc sa_nil hs3) hs2) hs).thenL g hp fun F1 ρ1 H1 ps vs st g1 rp len hp1 => ?_
  obtain ⟨z, ez⟩ := hp1.some
  rw [ez] at hp1
  unfold pvZip3 at ez
  split at ez
  · rename_i p q r
    obtain ⟨v, w, x, rfl, r1, r2, r3⟩ := rp.three
    cases e1 : pvSq p with
    | none => rw [e1] at ez; cases ez
    | some xs =>
    cases e2 : pvSq q with
    | none => rw [e1, e2] at ez; cases ez
    | some ys =>
    cases e3 : pvSq r with
    | none => rw [e1, e2, e3] at ez; cases ez
    | some zs =>
    rw [e1, e2, e3] at ez
    cases ez
    obtain ⟨a, t, us, rfl, h1, h2⟩ := sq_rep r1 e1
    obtain ⟨c, t', ws, rfl, h3, h4⟩ := sq_rep r2 e2
    obtain ⟨d, t'', vs, rfl, h5, h6⟩ := sq_rep r3 e3
    refine ⟨a, c, d, t, t', t'', us, ws, vs, rfl, h1 _ g1.sub, h3 _ g1.sub, h5 _ g1.sub, hp1 F1 H1 _ Stp.refl g1 ⟨?_⟩⟩
    exact ⟨_, _, walk_zip3 (xs := us) (ys := ws) (zs := vs) (by rw [← h2.length, ← h4.length, ← h6.length]; exact trip_len xs ys zs), fun H2 s => ⟨h1 _ s, h3 _ s, h5 _ s⟩, fun i p F2 H2 x H3 e s1 s2 y => item_trip h2 h4 h6 s1 s2 e y⟩
  · cases ez
end
end Ev

set_option Elab.async false
set_option linter.all false
set_option maxRecDepth 100000
universe u v
namespace Ev
open PySem L2
local macro_rules | `(tactic| simp_arith only [$ls,*]) => `(tactic| simp -implicitDefEqProofs only [Nat.reduceSub, Nat.reduceAdd, Int.reduceLT, Int.reduceLE, Int.reduceGT, Int.reduceGE, Int.reduceEq, Int.reducePow, Nat.reducePow, Nat.reduceMul, Int.reduceNeg, Int.reduceToNat, Int.reduceAbs, Int.reduceMod, Int.reduceDiv, Int.reduceAdd, Int.reduceSub, Int.reduceMul, Nat.reduceLT, Nat.reduceLeDiff, Nat.reduceEqDiff, decide_eq_true_eq, decide_true, decide_false, and_true, true_and, true_or, or_true, false_or, or_false, and_false, false_and, if_false, ite_true, ite_false, PV.int.injEq, PV.bl.injEq, exists_eq_left', Bool.not_true, Bool.not_false, Bool.false_eq_true, not_true_eq_false, not_false_eq_true, reduceCtorEq, Option.some.injEq, $ls,*])
/-! ### what is wanted of a mirror's answer, rule by rule -/
/-- of the same kind, bound to k -/
abbrev Tg {κ : Sort u} (_ : κ) (α : Type v) : Type v := α
def WpE {α : Type} (Q : α → Rho → Prop) (E : Exc → Rho → Prop) (r : Tg (PProd.mk Q E) (Res (α × Rho))) : Prop := match r with
  | .ok (a, ρ) => Q a ρ
  | .exc x ρ => E x ρ
  | .bad => False
structure PR where
  nx : Rho → Prop := fun _ => False
  rt : PV → Rho → Prop := fun _ _ => False
  rf : List PV → Rho → Prop := fun _ _ => False
  bk : Rho → Prop := fun _ => False
  ct : Rho → Prop := fun _ => False
  ex : Exc → Rho → Prop := fun _ _ => False
def WpS (D : PR) (r : Tg D SR) : Prop := match r with
  | .nx ρ => D.nx ρ | .rt p ρ => D.rt p ρ | .rf xs ρ => D.rf xs ρ | .bk ρ => D.bk ρ | .ct ρ => D.ct ρ | .exc x ρ => D.ex x ρ | .bad => False
def WpP (Q : PV → Prop) (E : Exc → Prop) (r : Tg (PProd.mk Q E) Ret) : Prop := match r with
  | .ok p => Q p | .exc x => E x | .bad => False
def WpB (Q : PV → List PV → Prop) (E : Exc → List PV → Prop) (r : Tg (PProd.mk Q E) RetB) : Prop := match r with
  | .ok p ys => Q p ys | .exc x ys => E x ys | .bad => False
def WpF (Q : List PV → Prop) (E : Exc → Prop) (r : Tg (PProd.mk Q E) RetF) : Prop := match r with
  | .ok p => Q p | .exc x => E x | .bad => False
def WpO {α : Type} (k : α → Prop) (o : Tg k (Option α)) : Prop := match o with
  | some a => k a
  | none => False
/-- alike, of things known -/
def pvEqv (p q : PV) : Option Bool := if (okD 12 p && okD 12 q) = true then some (PyData.eqv (pvD p) (pvD q)) else none
abbrev noE : Exc → Rho → Prop := fun _ _ => False
section
variable {α β : Type} {Q : α → Rho → Prop} {E : Exc → Rho → Prop} {ρ : Rho} {D : PR}
@[simp] theorem wp_ok {a : α} : WpE Q E (.ok (a, ρ)) = Q a ρ := rfl
@[simp] theorem wp_exc {x : Exc} : WpE Q E (.exc x ρ : Res (α × Rho)) = E x ρ := rfl
@[simp] theorem wp_bad : WpE Q E (.bad : Res (α × Rho)) = False := rfl
@[simp] theorem wo_some {a : α} {k : α → Prop} : WpO k (some a) = k a := rfl
@[simp] theorem wo_none {k : α → Prop} : WpO k (none : Option α) = False := rfl
@[simp] theorem wo_if {c : Prop} [Decidable c] {a b : Option α} {k : α → Prop} : WpO k (if c then a else b) = if c then WpO k a else WpO k b := by split <;> rfl
@[simp] theorem wo_map {f : β → α} {o : Option β} {k : α → Prop} : WpO k (o.map f) = WpO (fun b => k (f b)) o := by cases o <;> rfl
@[simp] theorem wo_bind {f : β → Option α} {o : Option β} {k : α → Prop} : WpO k (o.bind f) = WpO (fun b => WpO k (f b)) o := by cases o <;> rfl
@[simp] theorem wp_of {o : Option α} : WpE Q E (Res.of o ρ) = WpO (fun a => Q a ρ) o := by cases o <;> rfl
theorem wp_bnd {r : Res (β × Rho)} {f : β → Rho → Res (α × Rho)} : WpE Q E (r.bnd f) = WpE (fun b ρ1 => WpE Q E (f b ρ1)) E r := by
  cases r with
  | ok z => obtain ⟨a, ρ⟩ := z; rfl
  | exc x ρ => rfl
  | bad => rfl
theorem wp_sr {r : Res (β × Rho)} {f : β → Rho → SR} : WpS D (r.sr f) = WpE (fun b ρ1 => WpS D (f b ρ1)) D.ex r := by
  cases r with
  | ok z => obtain ⟨a, ρ⟩ := z; rfl
  | exc x ρ => rfl
  | bad => rfl
@[simp] theorem ws_nx : WpS D (.nx ρ) = D.nx ρ := rfl
@[simp] theorem ws_rt {p : PV} : WpS D (.rt p ρ) = D.rt p ρ := rfl
@[simp] theorem ws_rf {p : List PV} : WpS D (.rf p ρ) = D.rf p ρ := rfl
@[simp] theorem ws_bk : WpS D (.bk ρ) = D.bk ρ := rfl
@[simp] theorem ws_ct : WpS D (.ct ρ) = D.ct ρ := rfl
@[simp] theorem ws_exc {x : Exc} : WpS D (.exc x ρ) = D.ex x ρ := rfl
@[simp] theorem ws_bad : WpS D .bad = False := rfl
end
section
variable {Q : PV → Rho → Prop} {QT : Bool → Rho → Prop} {QA : List PV → Rho → Prop} {E : Exc → Rho → Prop} {ρ : Rho} {D : PR} {i j l : Nat}
/-! expressions -/
@[simp] theorem wp_name : WpE Q E (mName i ρ) = (match ρ[i]? with | some (.val p) => Q p ρ | some (.own xs) => Q (.lst xs) (ρ.set i (.val (.lst xs))) | _ => False) := by
  unfold mName; split <;> try simp_all
@[simp] theorem wp_c {p : PV} : WpE Q E (mC p ρ) = Q p ρ := rfl
@[simp] theorem wp_m2 {op : PV → PV → Option PV} {a b : M} : WpE Q E (m2 op a b ρ) = WpE (fun p ρ1 => WpE (fun q ρ2 => WpE Q E (Res.of (op p q) ρ2)) E (b ρ1)) E (a ρ) := by
  unfold m2; rw [wp_bnd]; congr; funext p ρ1; rw [wp_bnd]
@[simp] theorem wp_m1 {op : PV → Option PV} {a : M} : WpE Q E (m1 op a ρ) = WpE (fun p ρ1 => WpE Q E (Res.of (op p) ρ1)) E (a ρ) := by
  unfold m1; rw [wp_bnd]
@[simp] theorem wp_test {a : M} : WpE QT E (mTest a ρ) = WpE (fun p ρ1 => WpE QT E (Res.of (pvTruth p) ρ1)) E (a ρ) := by
  unfold mTest; rw [wp_bnd]
@[simp] theorem wp_truthN : WpE QT E (mTruthN i ρ) = WpE QT E (Res.of ((slotV ρ i).bind pvTruth) ρ) := rfl
@[simp] theorem wp_sumN : WpE Q E (mSumN i ρ) = WpE Q E (Res.of ((slotV ρ i).bind pvSum) ρ) := rfl
@[simp] theorem wp_lenN : WpE Q E (mLenN i ρ) = WpE Q E (Res.of ((slotV ρ i).bind pvLen) ρ) := rfl
@[simp] theorem wp_ixN {m : M} : WpE Q E (mIxN i m ρ) = WpO (fun _ => WpE (fun q ρ1 => WpE Q E (Res.of ((slotV ρ1 i).bind fun p => pvIx p q) ρ1)) E (m ρ)) (slotV ρ i) := by
  unfold mIxN
  split <;> rename_i h <;> simp only [h]
  · rfl
  · rw [wp_bnd]; rfl
@[simp] theorem wp_and {a b : MT} : WpE QT E (mAnd a b ρ) = WpE (fun c ρ1 => if c = true then WpE QT E (b ρ1) else QT false ρ1) E (a ρ) := by
  unfold mAnd; rw [wp_bnd]; congr; funext c ρ1; cases c <;> rfl
@[simp] theorem wp_or {a b : MT} : WpE QT E (mOr a b ρ) = WpE (fun c ρ1 => if c = true then QT true ρ1 else WpE QT E (b ρ1)) E (a ρ) := by
  unfold mOr; rw [wp_bnd]; congr; funext c ρ1; cases c <;> rfl
@[simp] theorem wp_notT {a : MT} : WpE QT E (mNotT a ρ) = WpE (fun c ρ1 => QT (!c) ρ1) E (a ρ) := by
  unfold mNotT; rw [wp_bnd]; rfl
@[simp] theorem wp_andV {a b : M} : WpE Q E (mAndV a b ρ) = WpE (fun p ρ1 => match p with | .bl true => WpE Q E (b ρ1) | .bl false => Q (.bl false) ρ1 | _ => False) E (a ρ) := by
  unfold mAndV; rw [wp_bnd]; congr; funext c ρ1; split <;> try simp_all
@[simp] theorem wp_orV {a b : M} : WpE Q E (mOrV a b ρ) = WpE (fun p ρ1 => match p with | .bl true => Q (.bl true) ρ1 | .bl false => WpE Q E (b ρ1) | _ => False) E (a ρ) := by
  unfold mOrV; rw [wp_bnd]; congr; funext c ρ1; split <;> try simp_all
@[simp] theorem wp_notV {a : M} : WpE Q E (mNotV a ρ) = WpE (fun p ρ1 => WpE Q E (Res.of ((pvTruth p).map fun k => .bl (!k)) ρ1)) E (a ρ) := by
  unfold mNotV; rw [wp_bnd]
@[simp] theorem wp_if {c : MT} {a b : M} : WpE Q E (mIf c a b ρ) = WpE (fun k ρ1 => if k = true then WpE Q E (a ρ1) else WpE Q E (b ρ1)) E (c ρ) := by
  unfold mIf; rw [wp_bnd]; congr; funext k ρ1; cases k <;> rfl
@[simp] theorem wp_ifF {c : MT} {a b : MF} : WpE QA E (mIfF c a b ρ) = WpE (fun k ρ1 => if k = true then WpE QA E (a ρ1) else WpE QA E (b ρ1)) E (c ρ) := by
  unfold mIfF; rw [wp_bnd]; congr; funext k ρ1; cases k <;> rfl
@[simp] theorem wp_args0 : WpE QA E (mArgs [] ρ) = QA [] ρ := rfl
@[simp] theorem wp_args1 {a : M} {as : List M} : WpE QA E (mArgs (a :: as) ρ) = WpE (fun p ρ1 => WpE (fun ps ρ2 => QA (p :: ps) ρ2) E (mArgs as ρ1)) E (a ρ) := by
  rw [mArgs, wp_bnd]; congr; funext p ρ1; rw [wp_bnd]; rfl
@[simp] theorem wp_tup {as : List M} : WpE Q E (mTup as ρ) = WpE (fun ps ρ1 => Q (.tup ps) ρ1) E (mArgs as ρ) := by
  unfold mTup; rw [wp_bnd]; rfl
@[simp] theorem wp_frz {m : MF} : WpE Q E (mFrz m ρ) = WpE (fun ps ρ1 => Q (.lst ps) ρ1) E (m ρ) := by
  unfold mFrz; rw [wp_bnd]; rfl
@[simp] theorem wp_callB {op : List PV → Option PV} {as : List M} : WpE Q E (mCallB op as ρ) = WpE (fun ps ρ1 => WpE Q E (Res.of (op ps) ρ1)) E (mArgs as ρ) := by
  unfold mCallB; rw [wp_bnd]
@[simp] theorem wp_callF {op : List PV → Option (List PV)} {as : List M} : WpE QA E (mCallF op as ρ) = WpE (fun ps ρ1 => WpE QA E (Res.of (op ps) ρ1)) E (mArgs as ρ) := by
  unfold mCallF; rw [wp_bnd]
@[simp] theorem wp_cat {a b : M} : WpE QA E (mCat a b ρ) = WpE (fun p ρ1 => WpE (fun q ρ2 => WpE QA E (Res.of (pvCat p q) ρ2)) E (b ρ1)) E (a ρ) := by
  unfold mCat; rw [wp_bnd]; congr; funext p ρ1; rw [wp_bnd]
@[simp] theorem wp_repL {a b : M} : WpE QA E (mRepL a b ρ) = WpE (fun p ρ1 => WpE (fun q ρ2 => WpE QA E (Res.of (pvRepL p q) ρ2)) E (b ρ1)) E (a ρ) := by
  unfold mRepL; rw [wp_bnd]; congr; funext p ρ1; rw [wp_bnd]
@[simp] theorem wp_chain {op op' : PV → PV → Option PV} {a b c : M} : WpE Q E (mChain op op' a b c ρ) = WpE (fun p ρ1 => WpE (fun q ρ2 => match op p q with | some (.bl true) => WpE (fun r ρ3 => WpE Q E (Res.of (op' q r) ρ3)) E (c ρ2) | some (.bl false) => Q (.bl false) ρ2 | _ => False) E (b ρ1)) E (a ρ) := by
  unfold mChain; rw [wp_bnd]; congr; funext p ρ1; rw [wp_bnd]; congr; funext q ρ2
  split <;> try simp_all [wp_bnd]
@[simp] theorem wp_cut {m : M} {lo hi : Option M} : WpE Q E (mCut m lo hi ρ) = WpE (fun p ρ1 => WpE (fun l ρ2 => WpE (fun h ρ3 => WpE Q E (Res.of (pvCut p l h) ρ3)) E (mPart hi ρ2)) E (mPart lo ρ1)) E (m ρ) := by
  unfold mCut; rw [wp_bnd]; congr; funext p ρ1; rw [wp_bnd]; congr; funext q ρ2; rw [wp_bnd]
@[simp] theorem wp_part0 {QO : Option Int → Rho → Prop} : WpE QO E (mPart none ρ) = QO none ρ := rfl
@[simp] theorem wp_part1 {QO : Option Int → Rho → Prop} {m : M} : WpE QO E (mPart (some m) ρ) = WpE (fun p ρ1 => match p with | .int i => QO (some i) ρ1 | _ => False) E (m ρ) := by
  rw [mPart, wp_bnd]; congr; funext p ρ1; split <;> try simp_all
@[simp] theorem wp_call {f : FP} {as : List M} : WpE Q E (mCall f as ρ) = WpE (fun ps ρ1 => WpP (fun p => Q p ρ1) (fun x => E x ρ1) (f ps)) E (mArgs as ρ) := by
  unfold mCall; rw [wp_bnd]; congr; funext ps ρ1; cases f ps <;> rfl
@[simp] theorem wp_callFr {f : FF} {as : List M} : WpE QA E (mCallFr f as ρ) = WpE (fun ps ρ1 => WpF (fun p => QA p ρ1) (fun x => E x ρ1) (f ps)) E (mArgs as ρ) := by
  unfold mCallFr; rw [wp_bnd]; congr; funext ps ρ1; cases f ps <;> rfl
@[simp] theorem wp_callBx {f : FB} {as : List M} : WpE Q E (mCallBx f i as ρ) = (match ρ[i]? with | some (.own _) => WpE (fun ps ρ1 => match ρ1[i]? with | some (.own xs) => WpB (fun p ys => Q p (ρ1.set i (.own ys))) (fun x ys => E x (ρ1.set i (.own ys))) (f xs ps) | _ => False) E (mArgs as ρ) | _ => False) := by
  unfold mCallBx
  split <;> try simp_all only [wp_bad]
  rw [wp_bnd]; congr; funext ps ρ1
  split <;> try simp_all only [wp_bad]
  rename_i xs _
  cases f xs ps <;> rfl
@[simp] theorem wp_popN : WpE Q E (mPopN i ρ) = (match ρ[i]? with | some (.own xs) => WpO (fun p => Q p (ρ.set i (.own xs.dropLast))) xs.getLast? | _ => False) := by
  unfold mPopN
  split <;> try simp_all only [wp_bad]
  split <;> try simp_all only [wp_bad, wp_ok, wo_some, wo_none]
@[simp] theorem wp_index {a e : M} : WpE Q E (mIndex a e ρ) = WpE (fun p ρ1 => match p with | .lst xs => WpE (fun q ρ2 => WpE Q E (Res.of (pvIndex xs q) ρ2)) E (e ρ1) | _ => False) E (a ρ) := by
  unfold mIndex; rw [wp_bnd]; congr; funext p ρ1
  split <;> try simp_all only [wp_bad, wp_bnd]
@[simp] theorem wp_yes : WpE QT E (mYes ρ) = QT true ρ := rfl
/-! what is walked -/
@[simp] theorem wp_seqI {m : M} : WpE QA E (mSeqI m ρ) = WpE (fun p ρ1 => WpE QA E (Res.of (pvSeq p) ρ1)) E (m ρ) := by unfold mSeqI; rw [wp_bnd]
@[simp] theorem wp_range {as : List M} : WpE QA E (mRange as ρ) = WpE (fun ps ρ1 => WpE QA E (Res.of (pvRange ps) ρ1)) E (mArgs as ρ) := by unfold mRange; rw [wp_bnd]
@[simp] theorem wp_revI {m : M} : WpE QA E (mRevI m ρ) = WpE (fun p ρ1 => WpE QA E (Res.of (pvRevI p) ρ1)) E (m ρ) := by unfold mRevI; rw [wp_bnd]
@[simp] theorem wp_zip {as : List M} : WpE QA E (mZip as ρ) = WpE (fun ps ρ1 => WpE QA E (Res.of (pvZip ps) ρ1)) E (mArgs as ρ) := by unfold mZip; rw [wp_bnd]
@[simp] theorem wp_zipB {as : List M} : WpE QA E (mZipB as ρ) = WpE (fun ps ρ1 => WpE QA E (Res.of (pvZipB ps) ρ1)) E (mArgs as ρ) := by unfold mZipB; rw [wp_bnd]
@[simp] theorem wp_zipS {as : List M} : WpE QA E (mZipS as ρ) = WpE (fun ps ρ1 => WpE QA E (Res.of (pvZipS ps) ρ1)) E (mArgs as ρ) := by unfold mZipS; rw [wp_bnd]
@[simp] theorem wp_enum {as : List M} : WpE QA E (mEnum as ρ) = WpE (fun ps ρ1 => WpE QA E (Res.of (pvEnum ps) ρ1)) E (mArgs as ρ) := by unfold mEnum; rw [wp_bnd]
@[simp] theorem wp_zip3 {as : List M} : WpE QA E (mZip3 as ρ) = WpE (fun ps ρ1 => WpE QA E (Res.of (pvZip3 ps) ρ1)) E (mArgs as ρ) := by unfold mZip3; rw [wp_bnd]
@[simp] theorem wp_enZ {as : List M} : WpE QA E (mEnZ as ρ) = WpE (fun ps ρ1 => WpE QA E (Res.of ((pvZipB ps).map enumP) ρ1)) E (mArgs as ρ) := by unfold mEnZ; rw [wp_bnd]
@[simp] theorem wp_callK {f : FP} {is : List Nat} {as : List M} : WpE Q E (mCallK f is as ρ) = WpE (fun ps ρ1 => WpP (fun p => Q p ρ1) (fun x => E x ρ1) (f (permP is ps))) E (mArgs as ρ) := by
  unfold mCallK; rw [wp_bnd]; congr; funext ps ρ1; cases f (permP is ps) <;> rfl
@[simp] theorem wp_callKF {f : FF} {is : List Nat} {as : List M} : WpE QA E (mCallKF f is as ρ) = WpE (fun ps ρ1 => WpF (fun p => QA p ρ1) (fun x => E x ρ1) (f (permP is ps))) E (mArgs as ρ) := by
  unfold mCallKF; rw [wp_bnd]; congr; funext ps ρ1; cases f (permP is ps) <;> rfl
@[simp] theorem wp_callBxF {f : FB} {mf : MF} {as : List M} : WpE Q E (mCallBxF f mf as ρ) = WpE (fun xs ρ1 => WpE (fun ps ρ2 => WpB (fun p _ => Q p ρ2) (fun x _ => E x ρ2) (f xs ps)) E (mArgs as ρ1)) E (mf ρ) := by
  unfold mCallBxF; rw [wp_bnd]; congr; funext xs ρ1; rw [wp_bnd]; congr; funext ps ρ2; cases f xs ps <;> rfl
@[simp] theorem wp_cps0 {QS : List Slot → Rho → Prop} : WpE QS E (mCps [] ρ) = QS [] ρ := rfl
@[simp] theorem wp_cps1 {QS : List Slot → Rho → Prop} {c : Cp} {cs : List Cp} : WpE QS E (mCps (c :: cs) ρ) = WpE (fun s ρ1 => WpE (fun ss ρ2 => QS (s :: ss) ρ2) E (mCps cs ρ1)) E (c.run ρ) := by
  rw [mCps, wp_bnd]; congr; funext p ρ1; rw [wp_bnd]; rfl
@[simp] theorem wp_cpv {QS : Slot → Rho → Prop} {m : M} : WpE QS E (Cp.run (.v m) ρ) = WpE (fun p ρ1 => QS (.val p) ρ1) E (m ρ) := by
  show WpE QS E ((m ρ).bnd _) = _; rw [wp_bnd]; rfl
@[simp] theorem wp_cpf {QS : Slot → Rho → Prop} {m : MF} : WpE QS E (Cp.run (.f m) ρ) = WpE (fun p ρ1 => QS (.own p) ρ1) E (m ρ) := by
  show WpE QS E ((m ρ).bnd _) = _; rw [wp_bnd]; rfl
/-! statements -/
@[simp] theorem ws_parG {is : List Nat} {cs : List Cp} : WpS D (mParG is cs ρ) = WpE (fun ss ρ1 => if ss.length = is.length then D.nx (setAll ρ1 is ss) else False) D.ex (mCps cs ρ) := by
  unfold mParG; rw [wp_sr]; congr; funext ss ρ1; split <;> rfl
@[simp] theorem ws_seq {a c : MS} : WpS D (mSeq a c ρ) = WpS { D with nx := fun ρ1 => WpS D (c ρ1) } (a ρ) := by
  unfold mSeq; cases a ρ <;> rfl
@[simp] theorem ws_nil : WpS D (mNil ρ) = D.nx ρ := rfl
@[simp] theorem ws_never : WpS D (mNever ρ) = False := rfl
@[simp] theorem ws_pass : WpS D (mPass ρ) = D.nx ρ := rfl
@[simp] theorem ws_ret {m : M} : WpS D (mRet m ρ) = WpE (fun p ρ1 => D.rt p ρ1) D.ex (m ρ) := by unfold mRet; rw [wp_sr]; rfl
@[simp] theorem ws_retF {m : MF} : WpS D (mRetF m ρ) = WpE (fun p ρ1 => D.rf p ρ1) D.ex (m ρ) := by unfold mRetF; rw [wp_sr]; rfl
@[simp] theorem ws_retN : WpS D (mRetN i ρ) = (match ρ[i]? with | some (.own xs) => D.rf xs (ρ.set i .emp) | _ => False) := by
  unfold mRetN; split <;> try simp_all
@[simp] theorem ws_set {m : M} : WpS D (mSet i m ρ) = WpE (fun p ρ1 => D.nx (ρ1.set i (.val p))) D.ex (m ρ) := by unfold mSet; rw [wp_sr]; rfl
@[simp] theorem ws_setF {m : MF} : WpS D (mSetF i m ρ) = WpE (fun p ρ1 => D.nx (ρ1.set i (.own p))) D.ex (m ρ) := by unfold mSetF; rw [wp_sr]; rfl
@[simp] theorem ws_if {c : MT} {a b : MS} : WpS D (mIfS c a b ρ) = WpE (fun k ρ1 => if k = true then WpS D (a ρ1) else WpS D (b ρ1)) D.ex (c ρ) := by
  unfold mIfS; rw [wp_sr]; congr; funext k ρ1; cases k <;> rfl
@[simp] theorem ws_asg {g : MG} {m : M} : WpS D (mAsg g m ρ) = WpE (fun p ρ1 => WpO (fun ρ2 => D.nx ρ2) (g p ρ1)) D.ex (m ρ) := by
  unfold mAsg; rw [wp_sr]; congr; funext p ρ1; split <;> try simp_all
@[simp] theorem ws_par {as : List M} : WpS D (mPar i j as ρ) = WpE (fun ps ρ1 => match ps with | [p, q] => D.nx ((ρ1.set i (.val p)).set j (.val q)) | _ => False) D.ex (mArgs as ρ) := by
  unfold mPar; rw [wp_sr]; congr; funext p ρ1; split <;> try simp_all
@[simp] theorem ws_par3 {as : List M} : WpS D (mPar3 i j l as ρ) = WpE (fun ps ρ1 => match ps with | [p, q, r] => D.nx (((ρ1.set i (.val p)).set j (.val q)).set l (.val r)) | _ => False) D.ex (mArgs as ρ) := by
  unfold mPar3; rw [wp_sr]; congr; funext p ρ1; split <;> try simp_all
@[simp] theorem ws_parF {mf : MF} {m : M} : WpS D (mParF i j mf m ρ) = WpE (fun xs ρ1 => WpE (fun q ρ2 => D.nx ((ρ2.set i (.own xs)).set j (.val q))) D.ex (m ρ1)) D.ex (mf ρ) := by
  unfold mParF; rw [wp_sr]; congr; funext p ρ1; rw [wp_sr]; rfl
@[simp] theorem ws_aug {op : PV → PV → Option PV} {m : M} : WpS D (mAug i op m ρ) = (match ρ[i]? with | some (.val q) => WpE (fun p ρ1 => WpO (fun z => D.nx (ρ1.set i (.val z))) (op q p)) D.ex (m ρ) | _ => False) := by
  unfold mAug; split <;> try simp_all only [ws_bad]
  rw [wp_sr]; congr; funext p ρ1; split <;> try simp_all
@[simp] theorem ws_append {m : M} : WpS D (mAppend i m ρ) = (match ρ[i]? with | some (.own _) => WpE (fun p ρ1 => match ρ1[i]? with | some (.own xs) => if xs.length < sizeLine then D.nx (ρ1.set i (.own (xs ++ [p]))) else False | _ => False) D.ex (m ρ) | _ => False) := by
  unfold mAppend; split <;> try simp_all only [ws_bad]
  rw [wp_sr]; congr; funext p ρ1; split <;> try simp_all only [ws_bad]
  split <;> rfl
@[simp] theorem ws_setIx {mi mv : M} : WpS D (mSetIx i mi mv ρ) = WpE (fun p ρ1 => match ρ1[i]? with | some (.own _) => WpE (fun q ρ2 => match ρ2[i]?, q with | some (.own xs), .int k => WpO (fun j => D.nx (ρ2.set i (.own (xs.set j p)))) (ixN xs.length k) | _, _ => False) D.ex (mi ρ1) | _ => False) D.ex (mv ρ) := by
  unfold mSetIx; rw [wp_sr]; congr; funext p ρ1; split <;> try simp_all only [ws_bad]
  rw [wp_sr]; congr; funext q ρ2; split <;> try simp_all
  split <;> try simp_all
@[simp] theorem ws_reverse : WpS D (mReverse i ρ) = (match ρ[i]? with | some (.own xs) => D.nx (ρ.set i (.own xs.reverse)) | _ => False) := by
  unfold mReverse; split <;> try simp_all
@[simp] theorem ws_clear : WpS D (mClear i ρ) = (match ρ[i]? with | some (.own _) => D.nx (ρ.set i (.own [])) | _ => False) := by
  unfold mClear; split <;> try simp_all
@[simp] theorem ws_extend {m : M} : WpS D (mExtend i m ρ) = (match ρ[i]? with | some (.own _) => WpE (fun p ρ1 => match ρ1[i]?, p with | some (.own xs), .lst ys => if xs.length + ys.length ≤ sizeLine then D.nx (ρ1.set i (.own (xs ++ ys))) else False | _, _ => False) D.ex (m ρ) | _ => False) := by
  unfold mExtend; split <;> try simp_all only [ws_bad]
  rw [wp_sr]; congr; funext p ρ1; split <;> try simp_all only [ws_bad]
  split <;> rfl
@[simp] theorem ws_popAt {m : M} : WpS D (mPopAt i m ρ) = (match ρ[i]? with | some (.own _) => WpE (fun p ρ1 => match ρ1[i]?, p with | some (.own xs), .int k => WpO (fun j => if -(2 ^ 63) ≤ k ∧ k < 2 ^ 63 then D.nx (ρ1.set i (.own (xs.eraseIdx j))) else False) (ixN xs.length k) | _, _ => False) D.ex (m ρ) | _ => False) := by
  unfold mPopAt; split <;> try simp_all only [ws_bad]
  rw [wp_sr]; congr; funext p ρ1; split <;> try simp_all only [ws_bad]
  split
  · rename_i e; rw [e, wo_some]; split <;> rfl
  · rename_i e; rw [e]; rfl
@[simp] theorem ws_insert {m m' : M} : WpS D (mInsert i m m' ρ) = (match ρ[i]? with | some (.own _) => WpE (fun p ρ1 => WpE (fun q ρ2 => match ρ2[i]?, p with | some (.own xs), .int k => if 0 ≤ k ∧ k < 2 ^ 63 ∧ xs.length < sizeLine then D.nx (ρ2.set i (.own (xs.take k.toNat ++ [q] ++ xs.drop k.toNat))) else False | _, _ => False) D.ex (m' ρ1)) D.ex (m ρ) | _ => False) := by
  unfold mInsert; split <;> try simp_all only [ws_bad]
  rw [wp_sr]; congr; funext p ρ1; rw [wp_sr]; congr; funext q ρ2; split <;> try simp_all only [ws_bad]
  split <;> rfl
@[simp] theorem wp_cmpN {neg : Bool} {m : M} : WpE QT E (mCmpN neg i m ρ) = (match ρ[i]? with | some (.own _) => WpE (fun q ρ1 => match ρ1[i]? with | some (.own xs) => WpO (fun k => QT (Bool.xor neg k) ρ1) (pvEqv (.lst xs) q) | _ => False) E (m ρ) | some (.val p) => WpE (fun q ρ1 => WpO (fun k => QT (Bool.xor neg k) ρ1) (pvEqv p q)) E (m ρ) | _ => False) := by
  unfold mCmpN
  cases h : ρ[i]? with
  | none => rfl
  | some s => cases s with
    | emp => rfl
    | own xs0 =>
      simp only
      rw [wp_bnd]; congr; funext q ρ1
      cases h2 : ρ1[i]? with
      | none => rfl
      | some s2 => cases s2 with
        | own xs => simp only; unfold pvEqv; split <;> rfl
        | _ => rfl
    | val p =>
      simp only
      rw [wp_bnd]; congr; funext q ρ1
      unfold pvEqv; split <;> rfl
@[simp] theorem wp_callBr {f : FP} {as : List M} : WpE Q E (mCallBr f i as ρ) = (match ρ[i]? with | some (.own _) => WpE (fun ps ρ1 => match ρ1[i]? with | some (.own xs) => WpP (fun p => if atomP p = true then Q p ρ1 else False) (fun _ => False) (f (.lst xs :: ps)) | _ => False) E (mArgs as ρ) | _ => False) := by
  unfold mCallBr
  split <;> try simp_all only [wp_bad]
  rw [wp_bnd]; congr; funext ps ρ1
  split <;> try simp_all only [wp_bad]
  rename_i xs _
  cases f (.lst xs :: ps) with
  | ok p => simp only [WpP]; split <;> rfl
  | exc x => rfl
  | bad => rfl
/-! defs -/
@[simp] theorem wpP_runP {N : List Str} {m : MS} {ps : List PV} {Q : PV → Prop} {E : Exc → Prop} : WpP Q E (runP N m ps) = WpS { nx := fun _ => Q .non, rt := fun p _ => Q p, ex := fun x _ => E x } (m (startR N ps)) := by
  unfold runP; cases m (startR N ps) <;> rfl
@[simp] theorem wpF_runF {N : List Str} {m : MS} {ps : List PV} {Q : List PV → Prop} {E : Exc → Prop} : WpF Q E (runF N m ps) = WpS { rf := fun p _ => Q p, ex := fun x _ => E x } (m (startR N ps)) := by
  unfold runF; cases m (startR N ps) <;> rfl
@[simp] theorem wpB_runB {N : List Str} {m : MS} {xs ps : List PV} {Q : PV → List PV → Prop} {E : Exc → List PV → Prop} : WpB Q E (runB N m xs ps) = WpS { nx := fun ρ => WpO (fun ys => Q .non ys) (own0 ρ), rt := fun p ρ => WpO (fun ys => Q p ys) (own0 ρ), ex := fun x ρ => WpO (fun ys => E x ys) (own0 ρ) } (m (.own xs :: startR (N.drop 1) ps)) := by
  unfold runB
  cases m (.own xs :: startR (N.drop 1) ps) with
  | nx ρ => simp only [ws_nx]; cases own0 ρ <;> rfl
  | rt p ρ => simp only [ws_rt]; cases own0 ρ <;> rfl
  | exc x ρ => simp only [ws_exc]; cases own0 ρ <;> rfl
  | _ => rfl
theorem wpP_eq {r : Ret} {p : PV} : r = .ok p ↔ WpP (fun q => q = p) (fun _ => False) r := by
  cases r <;> simp [WpP]
theorem wpB_ex {r : RetB} {Q : PV → List PV → Prop} : (∃ p ys, r = .ok p ys ∧ Q p ys) ↔ WpB Q (fun _ _ => False) r := by
  cases r with
  | ok p ys => exact ⟨fun ⟨_, _, e, h⟩ => by cases e; exact h, fun h => ⟨_, _, rfl, h⟩⟩
  | exc x ys => exact ⟨fun ⟨_, _, e, _⟩ => (by cases e), fun h => h.elim⟩
  | bad => exact ⟨fun ⟨_, _, e, _⟩ => (by cases e), fun h => h.elim⟩
theorem wpP_ex {r : Ret} {Q : PV → Prop} : (∃ p, r = .ok p ∧ Q p) ↔ WpP Q (fun _ => False) r := by
  cases r <;> simp [WpP]
theorem WpB.mono {r : RetB} {Q Q' : PV → List PV → Prop} {E E' : Exc → List PV → Prop} (h : WpB Q E r) (k : ∀ p ys, Q p ys → Q' p ys) (e : ∀ x ys, E x ys → E' x ys) : WpB Q' E' r := by
  cases r <;> try simp_all [WpB]
theorem WpP.mono {r : Ret} {Q Q' : PV → Prop} {E E' : Exc → Prop} (h : WpP Q E r) (k : ∀ p, Q p → Q' p) (e : ∀ x, E x → E' x) : WpP Q' E' r := by
  cases r <;> try simp_all [WpP]
/-- by a def's word, with no refusal -/
theorem WpB.use {r : RetB} {Q Q' : PV → List PV → Prop} {E' : Exc → List PV → Prop} (h : WpB Q (fun _ _ => False) r) (k : ∀ p ys, Q p ys → Q' p ys) : WpB Q' E' r := h.mono k fun _ _ z => z.elim
theorem WpP.use {r : Ret} {Q Q' : PV → Prop} {E' : Exc → Prop} (h : WpP Q (fun _ => False) r) (k : ∀ p, Q p → Q' p) : WpP Q' E' r := h.mono k fun _ z => z.elim
@[simp] theorem wpP_ok {p : PV} {Q : PV → Prop} {E : Exc → Prop} : WpP Q E (.ok p) = Q p := rfl
@[simp] theorem wpF_ok {p : List PV} {Q : List PV → Prop} {E : Exc → Prop} : WpF Q E (.ok p) = Q p := rfl
@[simp] theorem wpP_exc {p : Exc} {Q : PV → Prop} {E : Exc → Prop} : WpP Q E (.exc p) = E p := rfl
@[simp] theorem wpB_ok {p : PV} {ys : List PV} {Q : PV → List PV → Prop} {E : Exc → List PV → Prop} : WpB Q E (.ok p ys) = Q p ys := rfl
theorem WpE.mono {α : Type} {r : Res (α × Rho)} {Q Q' : α → Rho → Prop} {E E' : Exc → Rho → Prop} (h : WpE Q E r) (k : ∀ p ρ, Q p ρ → Q' p ρ) (e : ∀ x ρ, E x ρ → E' x ρ) : WpE Q' E' r := by
  cases r with
  | ok z => obtain ⟨a, ρ⟩ := z; exact k _ _ h
  | exc x ρ => exact e _ _ h
  | bad => exact h
theorem WpS.mono {r : SR} {D D' : PR} (h : WpS D r) (h1 : ∀ ρ, D.nx ρ → D'.nx ρ) (h2 : ∀ p ρ, D.rt p ρ → D'.rt p ρ) (h3 : ∀ p ρ, D.rf p ρ → D'.rf p ρ) (h4 : ∀ ρ, D.bk ρ → D'.bk ρ) (h5 : ∀ ρ, D.ct ρ → D'.ct ρ) (h6 : ∀ x ρ, D.ex x ρ → D'.ex x ρ) : WpS D' r := by
  cases r <;> try simp_all
/-! loops -/
theorem ws_for {mi : MI} {g : MG} {b : MS} : WpS D (mFor mi g b ρ) = WpE (fun ps ρ1 => WpS D (forL g b ps ρ1)) D.ex (mi ρ) := by unfold mFor; rw [wp_sr]
@[simp] theorem ws_for' {mi : MI} {g : MG} {b : MS} : WpS D (mFor mi g b ρ) = WpE (fun ps ρ1 => WpS D (forL g b ps ρ1)) D.ex (mi ρ) := ws_for
@[simp] theorem ws_forNil {g : MG} {b : MS} : WpS D (forL g b [] ρ) = D.nx ρ := rfl
theorem ws_forCons {g : MG} {b : MS} {p : PV} {ps : List PV} : WpS D (forL g b (p :: ps) ρ) = WpO (fun ρ1 => WpS { D with nx := fun ρ2 => WpS D (forL g b ps ρ2), ct := fun ρ2 => WpS D (forL g b ps ρ2), bk := fun ρ2 => D.nx ρ2 } (b ρ1)) (g p ρ) := by
  rw [forL]
  cases g p ρ with
  | none => rfl
  | some ρ1 =>
    simp only [wo_some]
    cases b ρ1 <;> rfl
/-- a for by what holds ahead of each turn -/
theorem ws_forInv {g : MG} {b : MS} {D : PR} : ∀ {ps : List PV} {ρ : Rho} (I : Nat → Rho → Prop) (h0 : I 0 ρ)
    (hs : ∀ (i : Nat) p ρ, ps[i]? = some p → I i ρ → WpO (fun ρ1 => WpS { D with nx := I (i + 1), ct := I (i + 1), bk := D.nx } (b ρ1)) (g p ρ)) (he : ∀ ρ, I ps.length ρ → D.nx ρ), WpS D (forL g b ps ρ)
  | [], ρ, I, h0, hs, he => by simpa using he ρ h0
  | p :: ps, ρ, I, h0, hs, he => by
    rw [ws_forCons]
    have h1 := hs 0 p ρ rfl h0
    cases h : g p ρ with
    | none => rw [h] at h1; exact h1
    | some ρ0 =>
    rw [h] at h1
    simp only [wo_some] at h1 ⊢
    refine h1.mono (fun ρ1 q => ?_) (fun _ _ z => z) (fun _ _ z => z) (fun _ z => z) (fun ρ1 q => ?_) (fun _ _ z => z)
    all_goals exact ws_forInv (fun i => I (i + 1)) q (fun i p ρ e => hs (i + 1) p ρ (by simpa using e)) (fun ρ z => he ρ (by simpa using z))
theorem ws_whileInv {c : MT} {b : MS} {D : PR} (I : Nat → Rho → Prop) (hs : ∀ n ρ, I n ρ → WpE (fun k ρ1 => if k = true then WpS { D with nx := fun ρ2 => ∃ m, m < n ∧ I m ρ2, ct := fun ρ2 => ∃ m, m < n ∧ I m ρ2, bk := D.nx } (b ρ1) else D.nx ρ1) D.ex (c ρ)) : ∀ (n : Nat) (ρ : Rho), I n ρ → WpS D (mWhile c b ρ) := fun n => by
  induction n using Nat.strongRecOn with
  | _ n ih =>
    intro ρ h
    rw [mWhile_eq, wp_sr]
    refine (hs n ρ h).mono (fun k ρ1 q => ?_) fun _ _ z => z
    cases k with
    | false => exact q
    | true =>
      simp only [if_true] at q ⊢
      have q2 : WpS { D with nx := fun ρ2 => WpS D (mWhile c b ρ2), ct := fun ρ2 => WpS D (mWhile c b ρ2), bk := D.nx } (b ρ1) := by
        refine q.mono (fun ρ2 z => ?_) (fun _ _ z => z) (fun _ _ z => z) (fun _ z => z) (fun ρ2 z => ?_) (fun _ _ z => z)
        all_goals (obtain ⟨m, hm, z⟩ := z; exact ih m hm ρ2 z)
      cases hb : b ρ1 <;> rw [hb] at q2 <;> exact q2
theorem ws_whileEq {c : MT} {b : MS} {D : PR} : WpS D (mWhile c b ρ) = WpE (fun k ρ1 => if k = true then WpS { D with nx := fun ρ2 => WpS D (mWhile c b ρ2), ct := fun ρ2 => WpS D (mWhile c b ρ2), bk := fun ρ2 => D.nx ρ2 } (b ρ1) else D.nx ρ1) D.ex (c ρ) := by
  rw [mWhile_eq, wp_sr]; congr; funext k ρ1
  cases k with
  | false => rfl
  | true => simp only [if_true]; cases hb : b ρ1 <;> rfl
/-! comprehensions -/
def WpC (Q : List PV → Rho → Prop) (r : Tg Q (Res (List PV × Rho))) : Prop := WpE Q (fun _ _ => False) r
@[simp] theorem wp_comp {mi : MI} {g : MG} {t : MT} {e : M} {ws : List Nat} : WpE QA E (mComp mi g t e ws ρ) = WpE (fun ps ρ1 => WpC (fun ys ρ2 => QA ys (backR ρ1 ρ2 ws)) (compL g t e ws ps [] (wipeR ρ1 ws))) E (mi ρ) := by
  unfold mComp; rw [wp_bnd]; congr; funext ps ρ1; rw [wp_bnd]
  cases compL g t e ws ps [] (wipeR ρ1 ws) with
  | ok z => rfl
  | exc x ρ => rfl
  | bad => rfl
@[simp] theorem wpC_nil {g : MG} {t : MT} {e : M} {ws : List Nat} {acc : List PV} : WpC QA (compL g t e ws [] acc ρ) = QA acc ρ := rfl
theorem wpC_cons {g : MG} {t : MT} {e : M} {ws : List Nat} {acc ps : List PV} {p : PV} : WpC QA (compL g t e ws (p :: ps) acc ρ) = WpO (fun ρ1 => WpE (fun k ρ2 => if k = true then WpE (fun y ρ3 => if acc.length < sizeLine then WpC QA (compL g t e ws ps (acc ++ [y]) (wipeR ρ3 ws)) else False) (fun _ _ => False) (e ρ2) else WpC QA (compL g t e ws ps acc (wipeR ρ2 ws))) (fun _ _ => False) (t ρ1)) (g p ρ) := by
  unfold WpC
  rw [compL]
  cases g p ρ with
  | none => rfl
  | some ρ1 =>
    simp only [wo_some]
    cases t ρ1 with
    | bad => rfl
    | exc x ρ => rfl
    | ok z =>
      obtain ⟨k, ρ2⟩ := z
      cases k with
      | false => rfl
      | true =>
        simp only [wp_ok, if_true]
        cases e ρ2 with
        | bad => rfl
        | exc x ρ => rfl
        | ok z =>
          obtain ⟨y, ρ3⟩ := z
          simp only [wp_ok]
          split <;> rfl
/-- a comprehension by what holds ahead of each turn -/
theorem wpC_inv {g : MG} {t : MT} {e : M} {ws : List Nat} : ∀ {ps acc : List PV} {ρ : Rho} (I : Nat → List PV → Rho → Prop) (h0 : I 0 acc ρ)
    (hs : ∀ (i : Nat) p acc ρ, ps[i]? = some p → I i acc ρ → WpO (fun ρ1 => WpE (fun k ρ2 => if k = true then WpE (fun y ρ3 => acc.length < sizeLine ∧ I (i + 1) (acc ++ [y]) (wipeR ρ3 ws)) (fun _ _ => False) (e ρ2) else I (i + 1) acc (wipeR ρ2 ws)) (fun _ _ => False) (t ρ1)) (g p ρ))
    (he : ∀ acc ρ, I ps.length acc ρ → QA acc ρ), WpC QA (compL g t e ws ps acc ρ)
  | [], acc, ρ, I, h0, hs, he => he acc ρ h0
  | p :: ps, acc, ρ, I, h0, hs, he => by
    rw [wpC_cons]
    have h1 := hs 0 p acc ρ rfl h0
    cases h : g p ρ with
    | none => rw [h] at h1; exact h1
    | some ρ0 =>
    rw [h] at h1
    simp only [wo_some] at h1 ⊢
    refine h1.mono (fun k ρ1 q => ?_) fun _ _ z => z
    have rec_ : ∀ acc ρ, I 1 acc ρ → WpC QA (compL g t e ws ps acc ρ) := fun acc ρ z => wpC_inv (fun i => I (i + 1)) z (fun i p acc ρ e => hs (i + 1) p acc ρ (by simpa using e)) (fun acc ρ z => he acc ρ (by simpa using z))
    cases k with
    | false => exact rec_ _ _ q
    | true =>
      simp only [if_true] at q ⊢
      refine q.mono (fun y ρ3 q => ?_) fun _ _ z => z
      rw [if_pos q.1]
      exact rec_ _ _ q.2
/-- each item's own value, nothing else changed -/
theorem wpC_map {g : MG} {e : M} {ws : List Nat} {ps : List PV} {ρ : Rho} (h : PV → PV) (hl : ps.length ≤ sizeLine)
    (hs : ∀ p, p ∈ ps → WpO (fun ρ1 => WpE (fun y ρ3 => y = h p ∧ wipeR ρ3 ws = ρ) (fun _ _ => False) (e ρ1)) (g p ρ))
    (he : QA (ps.map h) ρ) : WpC QA (compL g mYes e ws ps [] ρ) := by
  refine wpC_inv (fun i acc ρ' => ρ' = ρ ∧ acc = (ps.take i).map h) ⟨rfl, rfl⟩ ?_ ?_
  · rintro i p acc ρ' ei ⟨rfl, rfl⟩
    have hm : p ∈ ps := List.mem_of_getElem? ei
    have h1 := hs p hm
    cases hg : g p ρ' with
    | none => rw [hg] at h1; exact h1.elim
    | some ρ0 =>
    rw [hg] at h1
    simp only [wo_some, wp_yes, if_true] at h1 ⊢
    refine h1.mono (fun y ρ3 q => ?_) fun _ _ z => z
    obtain ⟨rfl, q⟩ := q
    have hi : i < ps.length := by
      by_cases z : i < ps.length
      · exact z
      · rw [List.getElem?_eq_none (by omega)] at ei; cases ei
    refine ⟨by simp; omega, q, ?_⟩
    rw [List.take_add_one, ei]; simp
  · rintro acc ρ' ⟨rfl, rfl⟩
    simpa using he
end
end Ev

set_option maxHeartbeats 4000000
set_option Elab.async false
set_option linter.all false
set_option maxRecDepth 100000
namespace Ev
open PySem L2
/-! is_number -/
abbrev n_is_number : List Str := ["thing"]
noncomputable def c_is_number : MS := mRet (mAndV (mCallB pvIsI [mName 0, mC (.ty "int")]) (mNotV (mCallB pvIsI [mName 0, mC (.ty "bool")])))
noncomputable def f_is_number : FP := runP n_is_number c_is_number
/-! is_turn -/
abbrev n_is_turn : List Str := ["thing", "way", "many"]
noncomputable def c_is_turn : MS := mSeq (mIfS (mOr (mNotT (mTest (mCallB pvIsI [mName 0, mC (.ty "tuple")]))) (mOr (mTest (m2 pvNe (mLenN 0) (mC (.int 2)))) (mNotT (mTest (mCallB pvIsI [mIxN 0 (mC (.int 0)), mC (.ty "str")]))))) (mRet (mC (.bl false))) (mNil)) (mSeq (mAsg (mgTup (mgCons (mgName 1) (mgCons (mgName 2) (mgNil)))) (mName 0)) (mRet (mAndV (m2 pvIn (mName 1) (mTup [mC (.str "forth"), mC (.str "back")])) (mAndV (mCall f_is_number [mName 2]) (m2 pvGe (mName 2) (mC (.int 1)))))))
noncomputable def f_is_turn : FP := runP n_is_turn c_is_turn
/-! is_turns -/
abbrev n_is_turns : List Str := ["thing", "part"]
noncomputable def c_is_turns : MS := mRet (mAndV (mCallB pvIsI [mName 0, mC (.ty "list")]) (mCallB (on1 pvAll) [mFrz (mComp (mSeqI (mName 0)) (mgName 1) (mYes) (mCall f_is_turn [mName 1]) [1])]))
noncomputable def f_is_turns : FP := runP n_is_turns c_is_turns
/-! joined -/
abbrev n_joined : List Str := ["turns", "found", "way", "many"]
noncomputable def c_joined : MS := mSeq (mSetF 1 (mArgs [])) (mSeq (mFor (mSeqI (mName 0)) (mgTup (mgCons (mgName 2) (mgCons (mgName 3) (mgNil)))) (mSeq (mIfS (mAnd (mTruthN 1) (mTest (m2 pvEq (m2 pvIx (mIxN 1 (m1 pvNeg (mC (.int 1)))) (mC (.int 0))) (mName 2)))) (mAug 3 pvAddI (m2 pvIx (mPopN 1) (mC (.int 1)))) (mNil)) (mAppend 1 (mTup [mName 2, mName 3])))) (mRet (mName 1)))
noncomputable def f_joined : FP := runP n_joined c_joined
/-! forgets -/
abbrev n_forgets : List Str := ["turns", "found", "at"]
noncomputable def c_forgets : MS := mSeq (mSet 1 (mCall f_joined [mName 0])) (mRet (mFrz (mComp (mRange [mC (.int 1), m2 pvSub (mLenN 1) (mC (.int 1))]) (mgName 2) (mTest (m2 pvLe (m2 pvIx (mIxN 1 (mName 2)) (mC (.int 1))) (mCallB (pvMin) [m2 pvIx (mIxN 1 (m2 pvSub (mName 2) (mC (.int 1)))) (mC (.int 1)), m2 pvIx (mIxN 1 (m2 pvAdd (mName 2) (mC (.int 1)))) (mC (.int 1))]))) (mName 2) [2])))
noncomputable def f_forgets : FP := runP n_forgets c_forgets
/-! with_turn -/
abbrev n_with_turn : List Str := ["found", "turn", "way", "many", "front", "last", "midst", "first"]
noncomputable def c_with_turn : MS := mSeq (mAsg (mgTup (mgCons (mgName 2) (mgCons (mgName 3) (mgNil)))) (mName 1)) (mSeq (mSetF 4 (mCallF pvList [mName 0])) (mSeq (mIfS (mAnd (mTruthN 4) (mTest (m2 pvEq (m2 pvIx (mIxN 4 (m1 pvNeg (mC (.int 1)))) (mC (.int 0))) (mName 2)))) (mAug 3 pvAddI (m2 pvIx (mPopN 4) (mC (.int 1)))) (mNil)) (mSeq (mAppend 4 (mTup [mName 2, mName 3])) (mSeq (mWhile (mAnd (mTest (m2 pvGt (mLenN 4) (mC (.int 2)))) (mTest (m2 pvLe (m2 pvIx (mIxN 4 (m1 pvNeg (mC (.int 2)))) (mC (.int 1))) (mCallB (pvMin) [m2 pvIx (mIxN 4 (m1 pvNeg (mC (.int 3)))) (mC (.int 1)), m2 pvIx (mIxN 4 (m1 pvNeg (mC (.int 1)))) (mC (.int 1))])))) (mSeq (mPar3 5 6 7 [mPopN 4, mPopN 4, mPopN 4]) (mAppend 4 (mTup [mName 2, m2 pvAdd (m2 pvSub (mIxN 7 (mC (.int 1))) (mIxN 6 (mC (.int 1)))) (mIxN 5 (mC (.int 1)))])))) (mRet (mName 4))))))
noncomputable def f_with_turn : FP := runP n_with_turn c_with_turn
/-! forgotten -/
abbrev n_forgotten : List Str := ["turns", "found", "turn"]
noncomputable def c_forgotten : MS := mSeq (mSet 1 (mFrz (mArgs []))) (mSeq (mFor (mSeqI (mName 0)) (mgName 2) (mSet 1 (mCall f_with_turn [mName 1, mCallB (on1 pvTuple) [mName 2]]))) (mRet (mName 1)))
noncomputable def f_forgotten : FP := runP n_forgotten c_forgotten
/-! is_forgotten -/
abbrev n_is_forgotten : List Str := ["thing"]
noncomputable def c_is_forgotten : MS := mRet (mAndV (mCall f_is_turns [mName 0]) (m2 pvEq (mCall f_forgotten [mName 0]) (mName 0)))
noncomputable def f_is_forgotten : FP := runP n_is_forgotten c_is_forgotten
/-! so_often -/
abbrev n_so_often : List Str := ["turns", "many", "found", "twice"]
noncomputable def c_so_often : MS := mSeq (mPar 2 3 [mFrz (mArgs []), mCall f_forgotten [mName 0]]) (mSeq (mWhile (mTest (m2 pvGt (mName 1) (mC (.int 0)))) (mSeq (mIfS (mTest (m2 pvEq (m2 pvMod (mName 1) (mC (.int 2))) (mC (.int 1)))) (mSet 2 (mCall f_forgotten [m2 pvAdd (mName 2) (mName 3)])) (mNil)) (mSeq (mAug 1 pvDiv (mC (.int 2))) (mIfS (mTest (m2 pvGt (mName 1) (mC (.int 0)))) (mSet 3 (mCall f_forgotten [m2 pvAdd (mName 3) (mName 3)])) (mNil))))) (mRet (mName 2)))
noncomputable def f_so_often : FP := runP n_so_often c_so_often
/-! _law_box -/
abbrev n__law_box : List Str := ["_law_script", "_law_k", "_law_cell"]
noncomputable def c__law_box : MS := mSeq (mSet 2 (mC (.int 0))) (mSeq (mIfS (mTest (m2 pvLt (mName 1) (mLenN 0))) (mSet 2 (mIxN 0 (mName 1))) (mNil)) (mRetF (mArgs [m2 pvMul (mCallB (on1 pvAbs) [mName 2]) (mCallB (on1 pvInt) [m2 pvGe (mCallB (on1 pvAbs) [mName 2]) (m2 pvPow (mC (.int 10)) (mC (.int 18)))]), m2 pvAdd (m2 pvAdd (m2 pvMod (mName 2) (mC (.int 2147483629))) (m2 pvMul (mC (.int 7919)) (mName 1))) (mC (.int 11)), mC (.int 0)])))
noncomputable def f__law_box : FF := runF n__law_box c__law_box
/-! _law_take -/
abbrev n__law_take : List Str := ["_law_box_here", "_law_bound", "_law_found", "_law_once"]
noncomputable def c__law_take : MS := mSeq (mIfS (mTest (m2 pvGt (mIxN 0 (mC (.int 0))) (mC (.int 0)))) (mSeq (mSet 2 (m2 pvMod (mIxN 0 (mC (.int 0))) (mName 1))) (mSeq (mSetIx 0 (mC (.int 0)) (m2 pvDiv (mIxN 0 (mC (.int 0))) (mName 1))) (mRet (mName 2)))) (mNil)) (mSeq (mSetIx 0 (mC (.int 2)) (m2 pvAdd (mIxN 0 (mC (.int 2))) (mC (.int 1)))) (mSeq (mSet 3 (m2 pvMod (m2 pvPow (m2 pvAdd (mIxN 0 (mC (.int 1))) (m2 pvMul (mC (.int 39373)) (mIxN 0 (mC (.int 2))))) (mC (.int 5))) (mC (.int 2147483647)))) (mRet (m2 pvMod (m2 pvDiv (m2 pvMod (m2 pvAdd (m2 pvMul (mName 3) (m2 pvAdd (m2 pvMod (mName 3) (mC (.int 40009))) (mC (.int 7)))) (m2 pvMul (mIxN 0 (mC (.int 2))) (mC (.int 7919)))) (mC (.int 2147483629))) (mC (.int 64))) (mName 1)))))
noncomputable def f__law_take : FB := runB n__law_take c__law_take
/-! _law_same -/
abbrev n__law_same : List Str := ["_law_found", "_law_due", "_law_one", "_law_two"]
noncomputable def c__law_same (f : FP) : MS := mSeq (mIfS (mTest (mCallB pvIsI [mName 1, mTup [mC (.ty "list"), mC (.ty "tuple")]])) (mSeq (mIfS (mOr (mTest (m2 pvNe (mCallB pvIsI [mName 0, mC (.ty "list")]) (mCallB pvIsI [mName 1, mC (.ty "list")]))) (mTest (m2 pvNe (mCallB pvIsI [mName 0, mC (.ty "tuple")]) (mCallB pvIsI [mName 1, mC (.ty "tuple")])))) (mRet (mC (.bl false))) (mNil)) (mSeq (mIfS (mTest (m2 pvNe (mLenN 0) (mLenN 1))) (mRet (mC (.bl false))) (mNil)) (mRet (mCallB (on1 pvAll) [mFrz (mComp (mZipB [mName 0, mName 1]) (mgTup (mgCons (mgName 2) (mgCons (mgName 3) (mgNil)))) (mYes) (mCall f [mName 2, mName 3]) [2, 3])])))) (mNil)) (mSeq (mIfS (mOr (mTest (m2 pvIs (mName 1) (mC .non))) (mTest (mCallB pvIsI [mName 1, mC (.ty "str")]))) (mRet (mAndV (m2 pvEq (mName 0) (mName 1)) (m2 pvEq (mCallB pvIsI [mName 0, mC (.ty "str")]) (mCallB pvIsI [mName 1, mC (.ty "str")])))) (mNil)) (mRet (mAndV (mCallB pvIsI [mName 0, mC (.ty "int")]) (mAndV (m2 pvEq (mCallB pvIsI [mName 0, mC (.ty "bool")]) (mCallB pvIsI [mName 1, mC (.ty "bool")])) (m2 pvEq (mName 0) (mName 1))))))
noncomputable def f__law_same : Nat → FP
  | 0 => fun _ => .bad
  | n + 1 => runP n__law_same (c__law_same (f__law_same n))
/-! _law_of -/
abbrev n__law_of : List Str := ["_law_box_here", "_law_some"]
noncomputable def c__law_of : MS := mRet (mIxN 1 (mCallBx f__law_take 0 [mLenN 1]))
noncomputable def f__law_of : FB := runB n__law_of c__law_of
/-! _law_told -/
abbrev n__law_told : List Str := ["_law_some", "_law_by", "_law_sense", "_law_told_here", "_law_at", "_law_long"]
noncomputable def c__law_told : MS := mSeq (mParF 3 4 (mArgs []) (mIndex (mFrz (mArgs [mC (.str "forth"), mC (.str "back")])) (mName 2))) (mSeq (mFor (mSeqI (mName 0)) (mgName 5) (mSeq (mAppend 3 (mTup [m2 pvIx (mFrz (mArgs [mC (.str "forth"), mC (.str "back")])) (mName 4), m2 pvMul (mName 5) (mName 1)])) (mSet 4 (m2 pvSub (mC (.int 1)) (mName 4))))) (mRet (mName 3)))
noncomputable def f__law_told : FP := runP n__law_told c__law_told
/-! is_ring -/
abbrev n_is_ring : List Str := ["line"]
noncomputable def c_is_ring : MS := mRet (m2 pvEq (mIxN 0 (mC (.int 0))) (mC (.str "ring")))
noncomputable def f_is_ring : FP := runP n_is_ring c_is_ring
/-! bins -/
abbrev n_bins : List Str := ["line"]
noncomputable def c_bins : MS := mRet (mCallB (on1 pvLen) [mIxN 0 (mC (.int 1))])
noncomputable def f_bins : FP := runP n_bins c_bins
/-! gates -/
abbrev n_gates : List Str := ["line"]
noncomputable def c_gates : MS := mRet (mIf (mTest (mCall f_is_ring [mName 0])) (mCall f_bins [mName 0]) (m2 pvAdd (mCall f_bins [mName 0]) (mC (.int 1))))
noncomputable def f_gates : FP := runP n_gates c_gates
/-! bin_behind -/
abbrev n_bin_behind : List Str := ["line", "gate"]
noncomputable def c_bin_behind : MS := mSeq (mIfS (mTest (mCall f_is_ring [mName 0])) (mRet (m2 pvMod (m2 pvSub (mName 1) (mC (.int 1))) (mCall f_bins [mName 0]))) (mNil)) (mRet (mIf (mTest (m2 pvGt (mName 1) (mC (.int 0)))) (m2 pvSub (mName 1) (mC (.int 1))) (mC .non)))
noncomputable def f_bin_behind : FP := runP n_bin_behind c_bin_behind
/-! bin_ahead -/
abbrev n_bin_ahead : List Str := ["line", "gate"]
noncomputable def c_bin_ahead : MS := mRet (mIf (mOr (mTest (mCall f_is_ring [mName 0])) (mTest (m2 pvLt (mName 1) (mCall f_bins [mName 0])))) (mName 1) (mC .non))
noncomputable def f_bin_ahead : FP := runP n_bin_ahead c_bin_ahead
/-! gate_out -/
abbrev n_gate_out : List Str := ["line", "place"]
noncomputable def c_gate_out : MS := mRet (mIf (mTest (mCall f_is_ring [mName 0])) (m2 pvMod (m2 pvAdd (mName 1) (mC (.int 1))) (mCall f_bins [mName 0])) (m2 pvAdd (mName 1) (mC (.int 1))))
noncomputable def f_gate_out : FP := runP n_gate_out c_gate_out
/-! goes -/
abbrev n_goes : List Str := ["line", "widths", "standing", "way", "gate", "behind", "ahead", "giver", "getter", "bounds"]
noncomputable def c_goes : MS := mSeq (mPar 5 6 [mCall f_bin_behind [mName 0, mName 4], mCall f_bin_ahead [mName 0, mName 4]]) (mSeq (mAsg (mgTup (mgCons (mgName 7) (mgCons (mgName 8) (mgNil)))) (mIf (mTest (m2 pvEq (mName 3) (mC (.str "forth")))) (mTup [mName 5, mName 6]) (mTup [mName 6, mName 5]))) (mSeq (mSetF 9 (mIfF (mTest (m2 pvIs (mIxN 1 (mName 4)) (mC .non))) (mArgs []) (mArgs [mIxN 1 (mName 4)]))) (mSeq (mIfS (mTest (m2 pvIsNot (mName 7) (mC .non))) (mAppend 9 (mIxN 2 (mName 7))) (mNil)) (mSeq (mIfS (mTest (m2 pvIsNot (mName 8) (mC .non))) (mAppend 9 (m2 pvSub (m2 pvIx (mIxN 0 (mC (.int 1))) (mName 8)) (mIxN 2 (mName 8)))) (mNil)) (mRet (mCallB pvMin1 [mName 9]))))))
noncomputable def f_goes : FP := runP n_goes c_goes
/-! moved -/
abbrev n_moved : List Str := ["line", "widths", "standing", "way", "gate"]
noncomputable def c_moved : MS := mRet (mCallB (on1 pvTuple) [mFrz (mComp (mRange [mCall f_gates [mName 0]]) (mgName 4) (mYes) (mCall f_goes [mName 0, mName 1, mName 2, mName 3, mName 4]) [4])])
noncomputable def f_moved : FP := runP n_moved c_moved
/-! behind_counts -/
abbrev n_behind_counts : List Str := ["line", "standing", "counts", "place"]
noncomputable def c_behind_counts : MS := mRet (mCallB (on1 pvTuple) [mFrz (mComp (mRange [mCall f_bins [mName 0]]) (mgName 3) (mYes) (m2 pvSub (m2 pvAdd (mIxN 1 (mName 3)) (mIxN 2 (mName 3))) (mIxN 2 (mCall f_gate_out [mName 0, mName 3]))) [3])])
noncomputable def f_behind_counts : FP := runP n_behind_counts c_behind_counts
/-! signed -/
abbrev n_signed : List Str := ["went", "way", "many"]
noncomputable def c_signed : MS := mRet (mIf (mTest (m2 pvEq (mName 1) (mC (.str "forth")))) (mName 0) (mCallB (on1 pvTuple) [mFrz (mComp (mSeqI (mName 0)) (mgName 2) (mYes) (m1 pvNeg (mName 2)) [2])]))
noncomputable def f_signed : FP := runP n_signed c_signed
/-! beat -/
abbrev n_beat : List Str := ["line", "widths", "standing", "way"]
noncomputable def c_beat : MS := mRet (mCall f_behind_counts [mName 0, mName 2, mCall f_signed [mCall f_moved [mName 0, mName 1, mName 2, mName 3], mName 3]])
noncomputable def f_beat : FP := runP n_beat c_beat
/-! beats -/
abbrev n_beats : List Str := ["line", "widths", "standing", "way", "many", "found"]
noncomputable def c_beats : MS := mSeq (mSetF 5 (mArgs [mCallB (on1 pvTuple) [mName 2]])) (mSeq (mWhile (mTest (m2 pvLe (mLenN 5) (mName 4))) (mAppend 5 (mCall f_beat [mName 0, mName 1, mIxN 5 (m1 pvNeg (mC (.int 1))), mName 3]))) (mRet (mName 5)))
noncomputable def f_beats : FP := runP n_beats c_beats
/-! summed -/
abbrev n_summed : List Str := ["one", "other", "mine", "its"]
noncomputable def c_summed : MS := mRet (mCallB (on1 pvTuple) [mFrz (mComp (mZipS [mName 0, mName 1]) (mgTup (mgCons (mgName 2) (mgCons (mgName 3) (mgNil)))) (mYes) (m2 pvAdd (mName 2) (mName 3)) [2, 3])])
noncomputable def f_summed : FP := runP n_summed c_summed
/-! led -/
abbrev n_led : List Str := ["line", "standing", "run", "here", "counts", "way", "widths"]
noncomputable def c_led : MS := mSeq (mPar 3 4 [mCallB (on1 pvTuple) [mName 1], m2 pvMul (mTup [mC (.int 0)]) (mCall f_gates [mName 0])]) (mSeq (mFor (mSeqI (mName 2)) (mgTup (mgCons (mgName 5) (mgCons (mgName 6) (mgNil)))) (mSeq (mSet 4 (mCall f_summed [mName 4, mCall f_signed [mCall f_moved [mName 0, mName 6, mName 3, mName 5], mName 5]])) (mSet 3 (mCall f_beat [mName 0, mName 6, mName 3, mName 5])))) (mRet (mTup [mName 3, mName 4])))
noncomputable def f_led : FP := runP n_led c_led
/-! _law_times -/
abbrev n__law_times : List Str := ["_law_some", "_law_by", "_law_one"]
noncomputable def c__law_times : MS := mRet (mCallB (on1 pvTuple) [mFrz (mComp (mSeqI (mName 0)) (mgName 2) (mYes) (mIf (mTest (m2 pvIs (mName 2) (mC .non))) (mName 2) (m2 pvMul (mName 2) (mName 1))) [2])])
noncomputable def f__law_times : FP := runP n__law_times c__law_times
/-! _law_wide -/
abbrev n__law_wide : List Str := ["_law_box_here", "_law_bound"]
noncomputable def c__law_wide : MS := mRet (m2 pvMod (m2 pvAdd (m2 pvMul (mCallBx f__law_take 0 [m2 pvPow (mC (.int 10)) (mC (.int 6))]) (m2 pvPow (mC (.int 10)) (mC (.int 6)))) (mCallBx f__law_take 0 [m2 pvPow (mC (.int 10)) (mC (.int 6))])) (mName 1))
noncomputable def f__law_wide : FB := runB n__law_wide c__law_wide
/-! _law_least -/
abbrev n__law_least : List Str := ["_law_door_here", "_law_some"]
noncomputable def c__law_least : MS := mRet (mIf (mTest (m2 pvIs (mName 0) (mC .non))) (mCallB pvMin1 [mName 1]) (mCallB pvMin1 [m2 pvAdd (mName 1) (mFrz (mArgs [mName 0]))]))
noncomputable def f__law_least : FP := runP n__law_least c__law_least
/-! _law_door -/
abbrev n__law_door : List Str := ["_law_box_here"]
noncomputable def c__law_door : MS := mRet (m2 pvIx (mFrz (mArgs [mC .non, mC (.int 0), m2 pvAdd (mC (.int 1)) (mCallBx f__law_take 0 [mC (.int 9)]), mCallBx f__law_wide 0 [m2 pvPow (mC (.int 10)) (mC (.int 9))]])) (mCallBx f__law_take 0 [mC (.int 4)]))
noncomputable def f__law_door : FB := runB n__law_door c__law_door
/-! contrary -/
abbrev n_contrary : List Str := ["way"]
noncomputable def c_contrary : MS := mRet (mIf (mTest (m2 pvEq (mName 0) (mC (.str "forth")))) (mC (.str "back")) (mC (.str "forth")))
noncomputable def f_contrary : FP := runP n_contrary c_contrary
/-! taken_back -/
abbrev n_taken_back : List Str := ["run", "way", "widths"]
noncomputable def c_taken_back : MS := mRet (mFrz (mComp (mRevI (mName 0)) (mgTup (mgCons (mgName 1) (mgCons (mgName 2) (mgNil)))) (mYes) (mTup [mCall f_contrary [mName 1], mCallB (on1 pvTuple) [mName 2]]) [1, 2]))
noncomputable def f_taken_back : FP := runP n_taken_back c_taken_back
/-! _law_line -/
abbrev n__law_line : List Str := ["_law_box_here", "_law_most", "_law_size", "_law_homes", "_law_turn"]
noncomputable def c__law_line : MS := mSeq (mSet 2 (m2 pvAdd (mC (.int 1)) (mCallBx f__law_take 0 [mName 1]))) (mSeq (mSet 3 (mCallB (on1 pvTuple) [mFrz (mComp (mRange [mName 2]) (mgName 4) (mYes) (m2 pvIx (mFrz (mArgs [mC (.int 1), mC (.int 2), mC (.int 3), m2 pvAdd (mC (.int 1)) (mCallBx f__law_take 0 [mC (.int 9)])])) (mCallBx f__law_take 0 [mC (.int 4)])) [4])])) (mRet (mTup [mIf (mAnd (mTest (m2 pvGt (mName 2) (mC (.int 1)))) (mTest (m2 pvEq (mCallBx f__law_take 0 [mC (.int 3)]) (mC (.int 0))))) (mC (.str "ring")) (mC (.str "row")), mName 3])))
noncomputable def f__law_line : FB := runB n__law_line c__law_line
/-! _law_doors -/
abbrev n__law_doors : List Str := ["_law_box_here", "_law_own", "_law_size", "_law_turn"]
noncomputable def c__law_doors : MS := mSeq (mSet 2 (m2 pvAdd (mCallB (on1 pvLen) [mIxN 1 (mC (.int 1))]) (mCallB (on1 pvInt) [m2 pvEq (mIxN 1 (mC (.int 0))) (mC (.str "row"))]))) (mRet (mCallB (on1 pvTuple) [mFrz (mComp (mRange [mName 2]) (mgName 3) (mYes) (m2 pvIx (mFrz (mArgs [mC .non, mC (.int 0), m2 pvAdd (mC (.int 1)) (mCallBx f__law_take 0 [mC (.int 4)]), mC .non, mCallBx f__law_take 0 [mC (.int 9)]])) (mCallBx f__law_take 0 [mC (.int 5)])) [3])]))
noncomputable def f__law_doors : FB := runB n__law_doors c__law_doors
/-! _law_lies -/
abbrev n__law_lies : List Str := ["_law_box_here", "_law_own", "_law_sort", "_law_home"]
noncomputable def c__law_lies : MS := mSeq (mSet 2 (mCallBx f__law_take 0 [mC (.int 8)])) (mSeq (mIfS (mTest (m2 pvLt (mName 2) (mC (.int 2)))) (mRet (mCallB (on1 pvTuple) [mFrz (mComp (mSeqI (mIxN 1 (mC (.int 1)))) (mgName 3) (mYes) (m2 pvMul (mName 3) (mName 2)) [3])])) (mNil)) (mRet (mCallB (on1 pvTuple) [mFrz (mComp (mSeqI (mIxN 1 (mC (.int 1)))) (mgName 3) (mYes) (mCallBx f__law_take 0 [m2 pvAdd (mName 3) (mC (.int 1))]) [3])])))
noncomputable def f__law_lies : FB := runB n__law_lies c__law_lies
/-! _law_great_line -/
abbrev n__law_great_line : List Str := ["_law_box_here", "_law_most", "_law_size", "_law_homes", "_law_own", "_law_doors_here", "_law_gate", "_law_turn", "_law_home"]
noncomputable def c__law_great_line : MS := mSeq (mSet 2 (m2 pvAdd (mC (.int 2)) (mCallBx f__law_take 0 [m2 pvSub (mName 1) (mC (.int 1))]))) (mSeq (mSet 3 (mCallB (on1 pvTuple) [mFrz (mComp (mRange [mName 2]) (mgName 7) (mYes) (m2 pvAdd (mC (.int 1)) (mCallBx f__law_wide 0 [m2 pvPow (mC (.int 10)) (mC (.int 9))])) [7])])) (mSeq (mSet 4 (mTup [mIf (mTest (m2 pvEq (mCallBx f__law_take 0 [mC (.int 3)]) (mC (.int 0)))) (mC (.str "ring")) (mC (.str "row")), mName 3])) (mSeq (mSetF 5 (mArgs [])) (mSeq (mFor (mRange [m2 pvAdd (mName 2) (mCallB (on1 pvInt) [m2 pvEq (mIxN 4 (mC (.int 0))) (mC (.str "row"))])]) (mgName 6) (mAppend 5 (m2 pvIx (mFrz (mArgs [mC .non, mCallBx f__law_wide 0 [m2 pvPow (mC (.int 10)) (mC (.int 9))], m2 pvAdd (mC (.int 1)) (mCallBx f__law_take 0 [mC (.int 9)]), mC (.int 0)])) (m2 pvIx (mFrz (mArgs [mC (.int 0), mC (.int 0), mC (.int 1), mC (.int 1), mC (.int 2), mC (.int 3)])) (mCallBx f__law_take 0 [mC (.int 6)]))))) (mRet (mTup [mName 4, mCallB (on1 pvTuple) [mName 5], mCallB (on1 pvTuple) [mFrz (mComp (mSeqI (mName 3)) (mgName 8) (mYes) (mCallBx f__law_wide 0 [m2 pvAdd (mName 8) (mC (.int 1))]) [8])]]))))))
noncomputable def f__law_great_line : FB := runB n__law_great_line c__law_great_line
/-! _law_way_about -/
abbrev n__law_way_about : List Str := ["_law_sense"]
noncomputable def c__law_way_about : MS := mRet (m2 pvDix (mDict [.inr "forth", .inr "back"] [mC (.str "back"), mC (.str "forth")]) (mName 0))
noncomputable def f__law_way_about : FP := runP n__law_way_about c__law_way_about
/-! lacking -/
abbrev n_lacking : List Str := ["line", "standing", "many", "room"]
noncomputable def c_lacking : MS := mRet (mCallB (on1 pvTuple) [mFrz (mComp (mZipS [mName 1, mIxN 0 (mC (.int 1))]) (mgTup (mgCons (mgName 2) (mgCons (mgName 3) (mgNil)))) (mYes) (m2 pvSub (mName 3) (mName 2)) [2, 3])])
noncomputable def f_lacking : FP := runP n_lacking c_lacking
/-! turned_line -/
abbrev n_turned_line : List Str := ["line", "form", "rooms"]
noncomputable def c_turned_line : MS := mSeq (mAsg (mgTup (mgCons (mgName 1) (mgCons (mgName 2) (mgNil)))) (mName 0)) (mRet (mTup [mName 1, m1 (pvDown false) (mCallB (on1 pvTuple) [mName 2])]))
noncomputable def f_turned_line : FP := runP n_turned_line c_turned_line
/-! turned -/
abbrev n_turned : List Str := ["line", "standing"]
noncomputable def c_turned : MS := mRet (m1 (pvDown false) (mCallB (on1 pvTuple) [mName 1]))
noncomputable def f_turned : FP := runP n_turned c_turned
/-! turned_widths -/
abbrev n_turned_widths : List Str := ["line", "widths", "found"]
noncomputable def c_turned_widths : MS := mSeq (mSet 2 (mCallB (on1 pvTuple) [mName 1])) (mRet (mIf (mTest (mCall f_is_ring [mName 0])) (m2 pvAdd (mCut (mName 2) none (some (mC (.int 1)))) (m1 (pvDown true) (mName 2))) (m1 (pvDown false) (mName 2))))
noncomputable def f_turned_widths : FP := runP n_turned_widths c_turned_widths
/-! _law_over -/
abbrev n__law_over : List Str := ["_law_own", "_law_some"]
noncomputable def c__law_over : MS := mRet (mIf (mTest (m2 pvEq (mIxN 0 (mC (.int 0))) (mC (.str "ring")))) (m2 pvAdd (mCut (mName 1) none (some (mC (.int 1)))) (m1 (pvDown true) (mName 1))) (m1 (pvDown false) (mName 1)))
noncomputable def f__law_over : FP := runP n__law_over c__law_over
/-! _law_holes -/
abbrev n__law_holes : List Str := ["_law_own", "_law_lies_here"]
noncomputable def c__law_holes : MS := mRet (mCall f_turned [mName 0, mCall f_lacking [mName 0, mName 1]])
noncomputable def f__law_holes : FP := runP n__law_holes c__law_holes
/-! are_numbers -/
abbrev n_are_numbers : List Str := ["thing", "part"]
noncomputable def c_are_numbers : MS := mRet (mAndV (mCallB pvIsI [mName 0, mC (.ty "tuple")]) (mCallB (on1 pvAll) [mFrz (mComp (mSeqI (mName 0)) (mgName 1) (mYes) (mCall f_is_number [mName 1]) [1])]))
noncomputable def f_are_numbers : FP := runP n_are_numbers c_are_numbers
/-! is_standing -/
abbrev n_is_standing : List Str := ["line", "thing", "many", "room"]
noncomputable def c_is_standing : MS := mSeq (mIfS (mOr (mNotT (mTest (mCall f_are_numbers [mName 1]))) (mTest (m2 pvNe (mLenN 1) (mCall f_bins [mName 0])))) (mRet (mC (.bl false))) (mNil)) (mRet (mCallB (on1 pvAll) [mFrz (mComp (mZipS [mName 1, mIxN 0 (mC (.int 1))]) (mgTup (mgCons (mgName 2) (mgCons (mgName 3) (mgNil)))) (mYes) (mChain pvLe pvLe (mC (.int 0)) (mName 2) (mName 3)) [2, 3])]))
noncomputable def f_is_standing : FP := runP n_is_standing c_is_standing
/-! _law_put -/
abbrev n__law_put : List Str := ["_law_own", "_law_lies_here", "_law_ticks", "_law_out", "_law_place", "_law_held", "_law_later"]
noncomputable def c__law_put : MS := mSeq (mSetF 3 (mComp (mRange [mLenN 1]) (mgName 4) (mYes) (m2 pvMod (m2 pvAdd (mName 4) (mC (.int 1))) (mLenN 2)) [4])) (mRet (mCallB (on1 pvTuple) [mFrz (mComp (mEnZ [mName 1, mName 3]) (mgTup (mgCons (mgName 4) (mgCons (mgTup (mgCons (mgName 5) (mgCons (mgName 6) (mgNil)))) (mgNil)))) (mYes) (m2 pvSub (m2 pvAdd (mName 5) (mIxN 2 (mName 4))) (mIxN 2 (mName 6))) [4, 5, 6])]))
noncomputable def f__law_put : FP := runP n__law_put c__law_put
/-! beats_in -/
abbrev n_beats_in : List Str := ["turns", "way", "many"]
noncomputable def c_beats_in : MS := mRet (mCallB (on1 pvSum) [mFrz (mComp (mSeqI (mName 0)) (mgTup (mgCons (mgName 1) (mgCons (mgName 2) (mgNil)))) (mYes) (mName 2) [1, 2])])
noncomputable def f_beats_in : FP := runP n_beats_in c_beats_in
/-! _law_sides -/
abbrev n__law_sides : List Str := ["_law_own", "_law_gate", "_law_size"]
noncomputable def c__law_sides : MS := mSeq (mSet 2 (mCallB (on1 pvLen) [mIxN 0 (mC (.int 1))])) (mSeq (mIfS (mTest (m2 pvEq (mIxN 0 (mC (.int 0))) (mC (.str "ring")))) (mRet (mTup [m2 pvMod (m2 pvSub (mName 1) (mC (.int 1))) (mName 2), mName 1])) (mNil)) (mRet (mTup [mIf (mTest (m2 pvGt (mName 1) (mC (.int 0)))) (m2 pvSub (mName 1) (mC (.int 1))) (mC .non), mIf (mTest (m2 pvLt (mName 1) (mName 2))) (mName 1) (mC .non)])))
noncomputable def f__law_sides : FP := runP n__law_sides c__law_sides
/-! _law_went -/
abbrev n__law_went : List Str := ["_law_own", "_law_doors_here", "_law_lies_here", "_law_sense", "_law_told", "_law_gate", "_law_door", "_law_behind", "_law_ahead", "_law_giver", "_law_getter", "_law_most"]
noncomputable def c__law_went : MS := mSeq (mSetF 4 (mArgs [])) (mSeq (mFor (mEnum [mName 1]) (mgTup (mgCons (mgName 5) (mgCons (mgName 6) (mgNil)))) (mSeq (mAsg (mgTup (mgCons (mgName 7) (mgCons (mgName 8) (mgNil)))) (mCall f__law_sides [mName 0, mName 5])) (mSeq (mAsg (mgTup (mgCons (mgName 9) (mgCons (mgName 10) (mgNil)))) (mIf (mTest (m2 pvEq (mName 3) (mC (.str "forth")))) (mTup [mName 7, mName 8]) (mTup [mName 8, mName 7]))) (mSeq (mSetF 11 (mIfF (mTest (m2 pvIs (mName 6) (mC .non))) (mArgs []) (mArgs [mName 6]))) (mSeq (mIfS (mTest (m2 pvIsNot (mName 9) (mC .non))) (mAppend 11 (mIxN 2 (mName 9))) (mNil)) (mSeq (mIfS (mTest (m2 pvIsNot (mName 10) (mC .non))) (mAppend 11 (m2 pvSub (m2 pvIx (mIxN 0 (mC (.int 1))) (mName 10)) (mIxN 2 (mName 10)))) (mNil)) (mAppend 4 (mCallB pvMin1 [mName 11])))))))) (mRet (mCallB (on1 pvTuple) [mName 4])))
noncomputable def f__law_went : FP := runP n__law_went c__law_went
/-! _law_beat -/
abbrev n__law_beat : List Str := ["_law_own", "_law_doors_here", "_law_lies_here", "_law_sense", "_law_ticks", "_law_went_here"]
noncomputable def c__law_beat : MS := mSeq (mSet 4 (mCallB (on1 pvTuple) [mFrz (mComp (mSeqI (mCall f__law_went [mName 0, mName 1, mName 2, mName 3])) (mgName 5) (mYes) (m2 pvMul (mName 5) (mIf (mTest (m2 pvEq (mName 3) (mC (.str "forth")))) (mC (.int 1)) (m1 pvNeg (mC (.int 1))))) [5])])) (mRet (mTup [mCall f__law_put [mName 0, mName 2, mName 4], mName 4]))
noncomputable def f__law_beat : FP := runP n__law_beat c__law_beat
/-! _law_ran -/
abbrev n__law_ran : List Str := ["_law_own", "_law_lies_here", "_law_run", "_law_total", "_law_sense", "_law_doors_here", "_law_ticks", "_law_door", "_law_mine", "_law_its"]
noncomputable def c__law_ran : MS := mSeq (mSet 3 (mCallB (on1 pvTuple) [mFrz (mComp (mRange [m2 pvAdd (mCallB (on1 pvLen) [mIxN 0 (mC (.int 1))]) (mCallB (on1 pvInt) [m2 pvEq (mIxN 0 (mC (.int 0))) (mC (.str "row"))])]) (mgName 7) (mYes) (mC (.int 0)) [7])])) (mSeq (mFor (mSeqI (mName 2)) (mgTup (mgCons (mgName 4) (mgCons (mgName 5) (mgNil)))) (mSeq (mAsg (mgTup (mgCons (mgName 1) (mgCons (mgName 6) (mgNil)))) (mCall f__law_beat [mName 0, mName 5, mName 1, mName 4])) (mSet 3 (mCallB (on1 pvTuple) [mFrz (mComp (mZipB [mName 3, mName 6]) (mgTup (mgCons (mgName 8) (mgCons (mgName 9) (mgNil)))) (mYes) (m2 pvAdd (mName 8) (mName 9)) [8, 9])])))) (mRet (mTup [mName 1, mName 3])))
noncomputable def f__law_ran : FP := runP n__law_ran c__law_ran
/-! _law_turns -/
abbrev n__law_turns : List Str := ["_law_box_here", "_law_size", "_law_long", "_law_told", "_law_sense", "_law_turn"]
noncomputable def c__law_turns : MS := mSeq (mParF 3 4 (mArgs []) (m2 pvIx (mFrz (mArgs [mC (.str "forth"), mC (.str "back")])) (mCallBx f__law_take 0 [mC (.int 2)]))) (mSeq (mFor (mRange [mCallBx f__law_take 0 [m2 pvAdd (mName 1) (mC (.int 1))]]) (mgName 5) (mSeq (mAppend 3 (mTup [mName 4, m2 pvAdd (mC (.int 1)) (mCallBx f__law_take 0 [mName 2])])) (mSet 4 (mIf (mTest (m2 pvEq (mCallBx f__law_take 0 [mC (.int 6)]) (mC (.int 0)))) (mName 4) (m2 pvDix (mDict [.inr "forth", .inr "back"] [mC (.str "back"), mC (.str "forth")]) (mName 4)))))) (mRet (mName 3)))
noncomputable def f__law_turns : FB := runB n__law_turns c__law_turns
/-! _law_gone -/
abbrev n__law_gone : List Str := ["_law_own", "_law_doors_here", "_law_lies_here", "_law_some", "_law_run", "_law_sense", "_law_long"]
noncomputable def c__law_gone : MS := mSeq (mSet 4 (mFrz (mArgs []))) (mSeq (mFor (mSeqI (mName 3)) (mgTup (mgCons (mgName 5) (mgCons (mgName 6) (mgNil)))) (mSet 4 (m2 pvAdd (mName 4) (m2 pvMul (mFrz (mArgs [mTup [mName 5, mName 1]])) (mName 6))))) (mRet (mCall f__law_ran [mName 0, mName 2, mName 4])))
noncomputable def f__law_gone : FP := runP n__law_gone c__law_gone
/-! net -/
abbrev n_net : List Str := ["turns", "way", "many"]
noncomputable def c_net : MS := mRet (mCallB (on1 pvSum) [mFrz (mComp (mSeqI (mName 0)) (mgTup (mgCons (mgName 1) (mgCons (mgName 2) (mgNil)))) (mYes) (mIf (mTest (m2 pvEq (mName 1) (mC (.str "forth")))) (mName 2) (m1 pvNeg (mName 2))) [1, 2])])
noncomputable def f_net : FP := runP n_net c_net
/-! back_turns -/
abbrev n_back_turns : List Str := ["turns", "way", "many"]
noncomputable def c_back_turns : MS := mRet (mFrz (mComp (mRevI (mName 0)) (mgTup (mgCons (mgName 1) (mgCons (mgName 2) (mgNil)))) (mYes) (mTup [mCall f_contrary [mName 1], mName 2]) [1, 2]))
noncomputable def f_back_turns : FP := runP n_back_turns c_back_turns
/-! _law_lists -/
abbrev n__law_lists : List Str := ["_law_matter", "_law_part"]
noncomputable def c__law_lists (f : FP) : MS := mRet (mIf (mTest (mCallB pvIsI [mName 0, mTup [mC (.ty "list"), mC (.ty "tuple")]])) (mFrz (mComp (mSeqI (mName 0)) (mgName 1) (mYes) (mCall f [mName 1]) [1])) (mName 0))
noncomputable def f__law_lists : Nat → FP
  | 0 => fun _ => .bad
  | n + 1 => runP n__law_lists (c__law_lists (f__law_lists n))
/-! _law_joined -/
abbrev n__law_joined : List Str := ["_law_some", "_law_told", "_law_sense", "_law_long"]
noncomputable def c__law_joined : MS := mSeq (mSetF 1 (mArgs [])) (mSeq (mFor (mSeqI (mName 0)) (mgTup (mgCons (mgName 2) (mgCons (mgName 3) (mgNil)))) (mIfS (mAnd (mCmpN true 1 (mFrz (mArgs []))) (mTest (m2 pvEq (m2 pvIx (mIxN 1 (m1 pvNeg (mC (.int 1)))) (mC (.int 0))) (mName 2)))) (mSetIx 1 (m1 pvNeg (mC (.int 1))) (mTup [mName 2, m2 pvAdd (m2 pvIx (mIxN 1 (m1 pvNeg (mC (.int 1)))) (mC (.int 1))) (mName 3)])) (mAppend 1 (mTup [mName 2, mName 3])))) (mRet (mName 1)))
noncomputable def f__law_joined : FP := runP n__law_joined c__law_joined
/-! _law_spots -/
abbrev n__law_spots : List Str := ["_law_some", "_law_at"]
noncomputable def c__law_spots : MS := mRet (mFrz (mComp (mRange [mC (.int 1), m2 pvSub (mLenN 0) (mC (.int 1))]) (mgName 1) (mTest (m2 pvLe (m2 pvIx (mIxN 0 (mName 1)) (mC (.int 1))) (mCallB (pvMin) [m2 pvIx (mIxN 0 (m2 pvSub (mName 1) (mC (.int 1)))) (mC (.int 1)), m2 pvIx (mIxN 0 (m2 pvAdd (mName 1) (mC (.int 1)))) (mC (.int 1))]))) (mName 1) [1]))
noncomputable def f__law_spots : FP := runP n__law_spots c__law_spots
/-! _law_left -/
abbrev n__law_left : List Str := ["_law_some", "_law_told", "_law_at", "_law_sense", "_law_ahead", "_law_its", "_law_midst", "_law_same_here", "_law_behind"]
noncomputable def c__law_left : MS := mSeq (mSet 1 (mCall f__law_joined [mName 0])) (mSeq (mWhile (mTest (m2 pvNe (mCall f__law_spots [mName 1]) (mFrz (mArgs [])))) (mSeq (mSet 2 (m2 pvIx (mCall f__law_spots [mName 1]) (mC (.int 0)))) (mSeq (mAsg (mgTup (mgCons (mgTup (mgCons (mgName 3) (mgCons (mgName 4) (mgNil)))) (mgCons (mgTup (mgCons (mgName 5) (mgCons (mgName 6) (mgNil)))) (mgCons (mgTup (mgCons (mgName 7) (mgCons (mgName 8) (mgNil)))) (mgNil))))) (mCut (mName 1) (some (m2 pvSub (mName 2) (mC (.int 1)))) (some (m2 pvAdd (mName 2) (mC (.int 2)))))) (mSet 1 (m2 pvAdd (m2 pvAdd (mCut (mName 1) none (some (m2 pvSub (mName 2) (mC (.int 1))))) (mFrz (mArgs [mTup [mName 3, m2 pvAdd (m2 pvSub (mName 4) (mName 6)) (mName 8)]]))) (mCut (mName 1) (some (m2 pvAdd (mName 2) (mC (.int 2)))) none)))))) (mRet (mName 1)))
noncomputable def f__law_left : FP := runP n__law_left c__law_left
/-! is_line -/
abbrev n_is_line : List Str := ["thing", "form", "rooms", "room"]
noncomputable def c_is_line : MS := mSeq (mIfS (mOr (mNotT (mTest (mCallB pvIsI [mName 0, mC (.ty "tuple")]))) (mOr (mTest (m2 pvNe (mLenN 0) (mC (.int 2)))) (mNotT (mTest (mCallB pvIsI [mIxN 0 (mC (.int 0)), mC (.ty "str")]))))) (mRet (mC (.bl false))) (mNil)) (mSeq (mAsg (mgTup (mgCons (mgName 1) (mgCons (mgName 2) (mgNil)))) (mName 0)) (mSeq (mIfS (mOr (mTest (m2 pvNotIn (mName 1) (mTup [mC (.str "row"), mC (.str "ring")]))) (mOr (mNotT (mTest (mCall f_are_numbers [mName 2]))) (mTest (mCallB (on1 pvAny) [mFrz (mComp (mSeqI (mName 2)) (mgName 3) (mYes) (m2 pvLt (mName 3) (mC (.int 1))) [3])])))) (mRet (mC (.bl false))) (mNil)) (mRet (m2 pvGe (mLenN 2) (mIf (mTest (m2 pvEq (mName 1) (mC (.str "row")))) (mC (.int 1)) (mC (.int 2)))))))
noncomputable def f_is_line : FP := runP n_is_line c_is_line
/-! is_width -/
abbrev n_is_width : List Str := ["thing"]
noncomputable def c_is_width : MS := mRet (mOrV (m2 pvIs (mName 0) (mC .non)) (mAndV (mCall f_is_number [mName 0]) (m2 pvGe (mName 0) (mC (.int 0)))))
noncomputable def f_is_width : FP := runP n_is_width c_is_width
/-! is_widths -/
abbrev n_is_widths : List Str := ["line", "thing", "part"]
noncomputable def c_is_widths : MS := mRet (mAndV (mCallB pvIsI [mName 1, mC (.ty "tuple")]) (mAndV (m2 pvEq (mLenN 1) (mCall f_gates [mName 0])) (mCallB (on1 pvAll) [mFrz (mComp (mSeqI (mName 1)) (mgName 2) (mYes) (mCall f_is_width [mName 2]) [2])])))
noncomputable def f_is_widths : FP := runP n_is_widths c_is_widths
/-! bare -/
abbrev n_bare : List Str := ["line"]
noncomputable def c_bare : MS := mRet (m2 pvMul (mTup [mC (.int 0)]) (mCall f_bins [mName 0]))
noncomputable def f_bare : FP := runP n_bare c_bare
/-! full -/
abbrev n_full : List Str := ["line"]
noncomputable def c_full : MS := mRet (mCallB (on1 pvTuple) [mIxN 0 (mC (.int 1))])
noncomputable def f_full : FP := runP n_full c_full
/-! _law_lists_k01 -/
abbrev n__law_lists_k01 : List Str := ["_law_thing", "_law_one"]
noncomputable def c__law_lists_k01 (f : FP) : MS := mRet (mIf (mTest (mCallB pvIsI [mName 0, mTup [mC (.ty "list"), mC (.ty "tuple")]])) (mFrz (mComp (mSeqI (mName 0)) (mgName 1) (mYes) (mCall f [mName 1]) [1])) (mName 0))
noncomputable def f__law_lists_k01 : Nat → FP
  | 0 => fun _ => .bad
  | n + 1 => runP n__law_lists_k01 (c__law_lists_k01 (f__law_lists_k01 n))
/-! beats_k02 -/
abbrev n_beats_k02 : List Str := ["line", "widths", "standing", "way", "many", "found"]
noncomputable def c_beats_k02 : MS := mSeq (mSetF 5 (mArgs [mCallB (on1 pvTuple) [mName 2]])) (mSeq (mWhile (mTest (m2 pvLe (mLenN 5) (mName 4))) (mAppend 5 (mCall f_beat [mName 0, mName 1, mIxN 5 (m1 pvNeg (mC (.int 1))), mName 3]))) (mRetN 5))
noncomputable def f_beats_k02 : FF := runF n_beats_k02 c_beats_k02
/-! _law_ran_k03 -/
abbrev n__law_ran_k03 : List Str := ["_law_own", "_law_lies_here", "_law_course", "_law_total", "_law_sense", "_law_doors_here", "_law_ticks", "_law_door", "_law_mine", "_law_its"]
noncomputable def c__law_ran_k03 : MS := mSeq (mSet 3 (mCallB (on1 pvTuple) [mFrz (mComp (mRange [m2 pvAdd (mCallB (on1 pvLen) [mIxN 0 (mC (.int 1))]) (mCallB (on1 pvInt) [m2 pvEq (mIxN 0 (mC (.int 0))) (mC (.str "row"))])]) (mgName 7) (mYes) (mC (.int 0)) [7])])) (mSeq (mFor (mSeqI (mName 2)) (mgTup (mgCons (mgName 4) (mgCons (mgName 5) (mgNil)))) (mSeq (mAsg (mgTup (mgCons (mgName 1) (mgCons (mgName 6) (mgNil)))) (mCall f__law_beat [mName 0, mName 5, mName 1, mName 4])) (mSet 3 (mCallB (on1 pvTuple) [mFrz (mComp (mZipB [mName 3, mName 6]) (mgTup (mgCons (mgName 8) (mgCons (mgName 9) (mgNil)))) (mYes) (m2 pvAdd (mName 8) (mName 9)) [8, 9])])))) (mRet (mTup [mName 1, mName 3])))
noncomputable def f__law_ran_k03 : FP := runP n__law_ran_k03 c__law_ran_k03
/-! _law_odd -/
abbrev n__law_odd : List Str := ["_law_box_here", "_law_some"]
noncomputable def c__law_odd : MS := mSeq (mSet 1 (mFrz (mArgs [mC .non, mC (.bl true), mC (.bl false), m1 pvNeg (mC (.int 1)), mC (.int 0), mC (.int 1), mC (.int 2), m2 pvPow (mC (.int 10)) (mC (.int 30)), mC (.str ""), mC (.str "row"), mC (.str "ring"), mC (.str "forth"), mTup [], mFrz (mArgs []), mTup [mC (.int 0)], mFrz (mArgs [mC (.int 1)]), mTup [mC (.int 1), mC (.int 1)], mFrz (mArgs [mFrz (mArgs [mC (.int 1)])])]))) (mRet (m2 pvIx (m2 pvAdd (mName 1) (mFrz (mArgs [mTup [mTup [mC (.int 1)]], mTup [mC (.str "row"), mTup [mC (.int 1)]], mTup [mC (.str "ring"), mTup [mC (.int 1), mC (.int 1)]], mFrz (mArgs [mC (.str "row"), mFrz (mArgs [mC (.int 1)])])]))) (mCallBx f__law_take 0 [mC (.int 22)])))
noncomputable def f__law_odd : FB := runB n__law_odd c__law_odd
/-! _law_is_number -/
abbrev n__law_is_number : List Str := ["_law_matter"]
noncomputable def c__law_is_number : MS := mRet (mAndV (mCallB pvIsI [mName 0, mC (.ty "int")]) (mNotV (mCallB pvIsI [mName 0, mC (.ty "bool")])))
noncomputable def f__law_is_number : FP := runP n__law_is_number c__law_is_number
/-! _law_is_line -/
abbrev n__law_is_line : List Str := ["_law_matter", "_law_home"]
noncomputable def c__law_is_line : MS := mSeq (mIfS (mOr (mNotT (mTest (mCallB pvIsI [mName 0, mC (.ty "tuple")]))) (mTest (m2 pvNe (mLenN 0) (mC (.int 2))))) (mRet (mC (.bl false))) (mNil)) (mSeq (mIfS (mOr (mNotT (mTest (mCallB pvIsI [mIxN 0 (mC (.int 0)), mC (.ty "str")]))) (mNotT (mTest (mCallB pvIsI [mIxN 0 (mC (.int 1)), mC (.ty "tuple")])))) (mRet (mC (.bl false))) (mNil)) (mSeq (mIfS (mNotT (mTest (mCallB (on1 pvAll) [mFrz (mComp (mSeqI (mIxN 0 (mC (.int 1)))) (mgName 1) (mYes) (mAndV (mCall f__law_is_number [mName 1]) (m2 pvGt (mName 1) (mC (.int 0)))) [1])]))) (mRet (mC (.bl false))) (mNil)) (mRet (mOrV (mAndV (m2 pvEq (mIxN 0 (mC (.int 0))) (mC (.str "row"))) (m2 pvGt (mCallB (on1 pvLen) [mIxN 0 (mC (.int 1))]) (mC (.int 0)))) (mAndV (m2 pvEq (mIxN 0 (mC (.int 0))) (mC (.str "ring"))) (m2 pvGt (mCallB (on1 pvLen) [mIxN 0 (mC (.int 1))]) (mC (.int 1))))))))
noncomputable def f__law_is_line : FP := runP n__law_is_line c__law_is_line
/-! _law_fit -/
abbrev n__law_fit : List Str := ["_law_own", "_law_matter", "_law_size", "_law_doors_here", "_law_lies_here", "_law_part", "_law_home"]
noncomputable def c__law_fit : MS := mSeq (mSet 2 (mCallB (on1 pvLen) [mIxN 0 (mC (.int 1))])) (mSeq (mIfS (mNotT (mTest (mCallB pvIsI [mName 1, mC (.ty "tuple")]))) (mRet (mFrz (mArgs [mC (.bl false), mC (.bl false)]))) (mNil)) (mSeq (mSet 3 (m2 pvEq (mLenN 1) (m2 pvAdd (mName 2) (mCallB (on1 pvInt) [m2 pvEq (mIxN 0 (mC (.int 0))) (mC (.str "row"))])))) (mSeq (mSet 3 (mAndV (mName 3) (mCallB (on1 pvAll) [mFrz (mComp (mSeqI (mName 1)) (mgName 5) (mYes) (mOrV (m2 pvIs (mName 5) (mC .non)) (mAndV (mCall f__law_is_number [mName 5]) (m2 pvGe (mName 5) (mC (.int 0))))) [5])]))) (mSeq (mSet 4 (mAndV (m2 pvEq (mLenN 1) (mName 2)) (mCallB (on1 pvAll) [mFrz (mComp (mSeqI (mName 1)) (mgName 5) (mYes) (mCall f__law_is_number [mName 5]) [5])]))) (mRet (mFrz (mArgs [mName 3, mAndV (mName 4) (mCallB (on1 pvAll) [mFrz (mComp (mZipB [mName 1, mIxN 0 (mC (.int 1))]) (mgTup (mgCons (mgName 5) (mgCons (mgName 6) (mgNil)))) (mYes) (mChain pvLe pvLe (mC (.int 0)) (mName 5) (mName 6)) [5, 6])])])))))))
noncomputable def f__law_fit : FP := runP n__law_fit c__law_fit
/-! _law_are_turns -/
abbrev n__law_are_turns : List Str := ["_law_matter", "_law_part"]
noncomputable def c__law_are_turns : MS := mSeq (mIfS (mNotT (mTest (mCallB pvIsI [mName 0, mC (.ty "list")]))) (mRet (mC (.bl false))) (mNil)) (mSeq (mFor (mSeqI (mName 0)) (mgName 1) (mSeq (mIfS (mOr (mNotT (mTest (mCallB pvIsI [mName 1, mC (.ty "tuple")]))) (mOr (mTest (m2 pvNe (mLenN 1) (mC (.int 2)))) (mNotT (mTest (mCallB pvIsI [mIxN 1 (mC (.int 0)), mC (.ty "str")]))))) (mRet (mC (.bl false))) (mNil)) (mIfS (mOr (mTest (m2 pvNotIn (mIxN 1 (mC (.int 0))) (mTup [mC (.str "forth"), mC (.str "back")]))) (mOr (mNotT (mTest (mCallB pvIsI [mIxN 1 (mC (.int 1)), mC (.ty "int")]))) (mOr (mTest (mCallB pvIsI [mIxN 1 (mC (.int 1)), mC (.ty "bool")])) (mTest (m2 pvLt (mIxN 1 (mC (.int 1))) (mC (.int 1))))))) (mRet (mC (.bl false))) (mNil)))) (mRet (mC (.bl true))))
noncomputable def f__law_are_turns : FP := runP n__law_are_turns c__law_are_turns
/-! _law_hill -/
abbrev n__law_hill : List Str := ["_law_box_here", "_law_longs", "_law_more", "_law_turn", "_law_at", "_law_told", "_law_long"]
noncomputable def c__law_hill : MS := mSeq (mParG [1, 2] [.f (mArgs []), .f (mArgs [])]) (mSeq (mFor (mRange [m2 pvAdd (mC (.int 1)) (mCallBx f__law_take 0 [mC (.int 5)])]) (mgName 3) (mAppend 1 (m2 pvAdd (m2 pvAdd (mIf (mCmpN true 1 (mFrz (mArgs []))) (mIxN 1 (m1 pvNeg (mC (.int 1)))) (mC (.int 0))) (mC (.int 1))) (mCallBx f__law_take 0 [mC (.int 3)])))) (mSeq (mFor (mRange [mCallBx f__law_take 0 [mC (.int 5)]]) (mgName 3) (mAppend 2 (m2 pvAdd (m2 pvAdd (mIf (mCmpN true 2 (mFrz (mArgs []))) (mIxN 2 (m1 pvNeg (mC (.int 1)))) (mC (.int 0))) (mC (.int 1))) (mCallBx f__law_take 0 [mC (.int 3)])))) (mSeq (mParG [4, 5] [.v (mCallBx f__law_take 0 [mC (.int 2)]), .f (mArgs [])]) (mSeq (mFor (mSeqI (m2 pvAdd (mName 1) (m1 (pvDown false) (mName 2)))) (mgName 6) (mSeq (mAppend 5 (mTup [m2 pvIx (mFrz (mArgs [mC (.str "forth"), mC (.str "back")])) (mName 4), mName 6])) (mSet 4 (m2 pvSub (mC (.int 1)) (mName 4))))) (mRet (mName 5))))))
noncomputable def f__law_hill : FB := runB n__law_hill c__law_hill
/-! between -/
abbrev n_between : List Str := ["line", "one", "other", "found", "mine", "its"]
noncomputable def c_between : MS := mSeq (mIfS (mAnd (mTest (mCall f_is_ring [mName 0])) (mTest (m2 pvNe (mCallB (on1 pvSum) [mName 1]) (mCallB (on1 pvSum) [mName 2])))) (mNever) (mNil)) (mSeq (mSetF 3 (mArgs [mC (.int 0)])) (mSeq (mFor (mZipS [mName 1, mName 2]) (mgTup (mgCons (mgName 4) (mgCons (mgName 5) (mgNil)))) (mAppend 3 (m2 pvSub (m2 pvAdd (mIxN 3 (m1 pvNeg (mC (.int 1)))) (mName 4)) (mName 5)))) (mRet (mCallB (on1 pvTuple) [mCut (mName 3) none (some (mCall f_gates [mName 0]))]))))
noncomputable def f_between : FP := runP n_between c_between
/-! apart -/
abbrev n_apart : List Str := ["line", "one", "other", "found"]
noncomputable def c_apart : MS := mSeq (mSet 3 (mCall f_between [mName 0, mName 1, mName 2])) (mRet (m2 pvSub (mCallB pvMax1 [mName 3]) (mCallB pvMin1 [mName 3])))
noncomputable def f_apart : FP := runP n_apart c_apart
/-! is_further -/
abbrev n_is_further : List Str := ["line", "one", "other", "count"]
noncomputable def c_is_further : MS := mRet (mCallB (on1 pvAll) [mFrz (mComp (mSeqI (mCall f_between [mName 0, mName 1, mName 2])) (mgName 3) (mYes) (m2 pvGe (mName 3) (mC (.int 0))) [3])])
noncomputable def f_is_further : FP := runP n_is_further c_is_further
/-! lesser -/
abbrev n_lesser : List Str := ["line", "one", "other", "count"]
noncomputable def c_lesser : MS := mRet (mCall f_behind_counts [mName 0, mName 1, mFrz (mComp (mSeqI (mCall f_between [mName 0, mName 1, mName 2])) (mgName 3) (mYes) (mCallB (pvMin) [mC (.int 0), mName 3]) [3])])
noncomputable def f_lesser : FP := runP n_lesser c_lesser
/-! greater -/
abbrev n_greater : List Str := ["line", "one", "other", "count"]
noncomputable def c_greater : MS := mRet (mCall f_behind_counts [mName 0, mName 1, mFrz (mComp (mSeqI (mCall f_between [mName 0, mName 1, mName 2])) (mgName 3) (mYes) (mCallB (pvMax) [mC (.int 0), mName 3]) [3])])
noncomputable def f_greater : FP := runP n_greater c_greater
/-! _law_same_k60 -/
abbrev n__law_same_k60 : List Str := ["_law_found", "_law_due", "_law_mine", "_law_its"]
noncomputable def c__law_same_k60 (f : FP) : MS := mSeq (mIfS (mTest (mCallB pvIsI [mName 1, mTup [mC (.ty "list"), mC (.ty "tuple")]])) (mSeq (mIfS (mOr (mTest (m2 pvNe (mCallB pvIsI [mName 0, mC (.ty "list")]) (mCallB pvIsI [mName 1, mC (.ty "list")]))) (mTest (m2 pvNe (mCallB pvIsI [mName 0, mC (.ty "tuple")]) (mCallB pvIsI [mName 1, mC (.ty "tuple")])))) (mRet (mC (.bl false))) (mNil)) (mSeq (mIfS (mTest (m2 pvNe (mLenN 0) (mLenN 1))) (mRet (mC (.bl false))) (mNil)) (mRet (mCallB (on1 pvAll) [mFrz (mComp (mZipB [mName 0, mName 1]) (mgTup (mgCons (mgName 2) (mgCons (mgName 3) (mgNil)))) (mYes) (mCall f [mName 2, mName 3]) [2, 3])])))) (mNil)) (mSeq (mIfS (mOr (mTest (m2 pvIs (mName 1) (mC .non))) (mTest (mCallB pvIsI [mName 1, mC (.ty "str")]))) (mRet (mAndV (m2 pvEq (mName 0) (mName 1)) (m2 pvEq (mCallB pvIsI [mName 0, mC (.ty "str")]) (mCallB pvIsI [mName 1, mC (.ty "str")])))) (mNil)) (mRet (mAndV (mCallB pvIsI [mName 0, mC (.ty "int")]) (mAndV (m2 pvEq (mCallB pvIsI [mName 0, mC (.ty "bool")]) (mCallB pvIsI [mName 1, mC (.ty "bool")])) (m2 pvEq (mName 0) (mName 1))))))
noncomputable def f__law_same_k60 : Nat → FP
  | 0 => fun _ => .bad
  | n + 1 => runP n__law_same_k60 (c__law_same_k60 (f__law_same_k60 n))
/-! _law_great_line_k60 -/
abbrev n__law_great_line_k60 : List Str := ["_law_box_here", "_law_most", "_law_size", "_law_homes", "_law_own", "_law_doors", "_law_gate", "_law_turn", "_law_home"]
noncomputable def c__law_great_line_k60 : MS := mSeq (mSet 2 (m2 pvAdd (mC (.int 2)) (mCallBx f__law_take 0 [m2 pvSub (mName 1) (mC (.int 1))]))) (mSeq (mSet 3 (mCallB (on1 pvTuple) [mFrz (mComp (mRange [mName 2]) (mgName 7) (mYes) (m2 pvAdd (mC (.int 1)) (mCallBx f__law_wide 0 [m2 pvPow (mC (.int 10)) (mC (.int 9))])) [7])])) (mSeq (mSet 4 (mTup [mIf (mTest (m2 pvEq (mCallBx f__law_take 0 [mC (.int 3)]) (mC (.int 0)))) (mC (.str "ring")) (mC (.str "row")), mName 3])) (mSeq (mSetF 5 (mArgs [])) (mSeq (mFor (mRange [m2 pvAdd (mName 2) (mCallB (on1 pvInt) [m2 pvEq (mIxN 4 (mC (.int 0))) (mC (.str "row"))])]) (mgName 6) (mAppend 5 (m2 pvIx (mFrz (mArgs [mC .non, mCallBx f__law_wide 0 [m2 pvPow (mC (.int 10)) (mC (.int 9))], m2 pvAdd (mC (.int 1)) (mCallBx f__law_take 0 [mC (.int 9)]), mC (.int 0)])) (m2 pvIx (mFrz (mArgs [mC (.int 0), mC (.int 0), mC (.int 1), mC (.int 1), mC (.int 2), mC (.int 3)])) (mCallBx f__law_take 0 [mC (.int 6)]))))) (mRet (mTup [mName 4, mCallB (on1 pvTuple) [mName 5], mCallB (on1 pvTuple) [mFrz (mComp (mSeqI (mName 3)) (mgName 8) (mYes) (mCallBx f__law_wide 0 [m2 pvAdd (mName 8) (mC (.int 1))]) [8])]]))))))
noncomputable def f__law_great_line_k60 : FB := runB n__law_great_line_k60 c__law_great_line_k60
/-! _law_tied -/
abbrev n__law_tied : List Str := ["_law_own", "_law_lies_here", "_law_there", "_law_told", "_law_held", "_law_has"]
noncomputable def c__law_tied : MS := mSeq (mSetF 3 (mArgs [mC (.int 0)])) (mSeq (mFor (mZipB [mName 1, mName 2]) (mgTup (mgCons (mgName 4) (mgCons (mgName 5) (mgNil)))) (mAppend 3 (m2 pvSub (m2 pvAdd (mIxN 3 (m1 pvNeg (mC (.int 1)))) (mName 4)) (mName 5)))) (mRet (mCallB (on1 pvTuple) [mCut (mName 3) none (some (m2 pvAdd (mLenN 1) (mCallB (on1 pvInt) [m2 pvEq (mIxN 0 (mC (.int 0))) (mC (.str "row"))])))])))
noncomputable def f__law_tied : FP := runP n__law_tied c__law_tied
/-! _law_two -/
abbrev n__law_two : List Str := ["_law_box_here", "_law_own", "_law_lies_here", "_law_there", "_law_at", "_law_gap"]
noncomputable def c__law_two : MS := mSeq (mParG [2, 3] [.v (mCallBx f__law_lies 0 [mName 1]), .f (mCallF pvList [mCallBx f__law_lies 0 [mName 1]])]) (mSeq (mIfS (mTest (m2 pvEq (mIxN 1 (mC (.int 0))) (mC (.str "ring")))) (mFor (mRange [mLenN 3]) (mgName 4) (mSeq (mSet 5 (m2 pvSub (mCallB (on1 pvSum) [mName 2]) (mSumN 3))) (mSetIx 3 (mName 4) (mCallB (pvMax) [mC (.int 0), mCallB (pvMin) [m2 pvIx (mIxN 1 (mC (.int 1))) (mName 4), m2 pvAdd (mIxN 3 (mName 4)) (mName 5)]])))) (mNil)) (mRet (mTup [mName 2, mCallB (on1 pvTuple) [mName 3]])))
noncomputable def f__law_two : FB := runB n__law_two c__law_two
/-! with_more -/
abbrev n_with_more : List Str := ["line", "standing", "place", "spot", "many"]
noncomputable def c_with_more : MS := mSeq (mIfS (mTest (m2 pvGe (mIxN 1 (mName 2)) (m2 pvIx (mIxN 0 (mC (.int 1))) (mName 2)))) (mNever) (mNil)) (mRet (mCallB (on1 pvTuple) [mFrz (mComp (mEnum [mName 1]) (mgTup (mgCons (mgName 3) (mgCons (mgName 4) (mgNil)))) (mYes) (mIf (mTest (m2 pvEq (mName 3) (mName 2))) (m2 pvAdd (mName 4) (mC (.int 1))) (mName 4)) [3, 4])]))
noncomputable def f_with_more : FP := runP n_with_more c_with_more
/-! _law_times_k64 -/
abbrev n__law_times_k64 : List Str := ["_law_some", "_law_by", "_law_number"]
noncomputable def c__law_times_k64 : MS := mRet (mCallB (on1 pvTuple) [mFrz (mComp (mSeqI (mName 0)) (mgName 2) (mYes) (m2 pvMul (mName 2) (mName 1)) [2])])
noncomputable def f__law_times_k64 : FP := runP n__law_times_k64 c__law_times_k64
/-! _law_same_k65 -/
abbrev n__law_same_k65 : List Str := ["_law_found", "_law_due", "_law_one", "_law_two_here"]
noncomputable def c__law_same_k65 (f : FP) : MS := mSeq (mIfS (mTest (mCallB pvIsI [mName 1, mTup [mC (.ty "list"), mC (.ty "tuple")]])) (mSeq (mIfS (mOr (mTest (m2 pvNe (mCallB pvIsI [mName 0, mC (.ty "list")]) (mCallB pvIsI [mName 1, mC (.ty "list")]))) (mTest (m2 pvNe (mCallB pvIsI [mName 0, mC (.ty "tuple")]) (mCallB pvIsI [mName 1, mC (.ty "tuple")])))) (mRet (mC (.bl false))) (mNil)) (mSeq (mIfS (mTest (m2 pvNe (mLenN 0) (mLenN 1))) (mRet (mC (.bl false))) (mNil)) (mRet (mCallB (on1 pvAll) [mFrz (mComp (mZipB [mName 0, mName 1]) (mgTup (mgCons (mgName 2) (mgCons (mgName 3) (mgNil)))) (mYes) (mCall f [mName 2, mName 3]) [2, 3])])))) (mNil)) (mSeq (mIfS (mOr (mTest (m2 pvIs (mName 1) (mC .non))) (mTest (mCallB pvIsI [mName 1, mC (.ty "str")]))) (mRet (mAndV (m2 pvEq (mName 0) (mName 1)) (m2 pvEq (mCallB pvIsI [mName 0, mC (.ty "str")]) (mCallB pvIsI [mName 1, mC (.ty "str")])))) (mNil)) (mRet (mAndV (mCallB pvIsI [mName 0, mC (.ty "int")]) (mAndV (m2 pvEq (mCallB pvIsI [mName 0, mC (.ty "bool")]) (mCallB pvIsI [mName 1, mC (.ty "bool")])) (m2 pvEq (mName 0) (mName 1))))))
noncomputable def f__law_same_k65 : Nat → FP
  | 0 => fun _ => .bad
  | n + 1 => runP n__law_same_k65 (c__law_same_k65 (f__law_same_k65 n))
/-! _law_great_two -/
abbrev n__law_great_two : List Str := ["_law_box_here", "_law_size", "_law_homes", "_law_own", "_law_lies_here", "_law_there", "_law_at", "_law_gap", "_law_turn", "_law_home"]
noncomputable def c__law_great_two : MS := mSeq (mSet 1 (m2 pvAdd (mC (.int 2)) (mCallBx f__law_take 0 [mC (.int 5)]))) (mSeq (mSet 2 (mCallB (on1 pvTuple) [mFrz (mComp (mRange [mName 1]) (mgName 8) (mYes) (m2 pvAdd (mC (.int 1)) (mCallBx f__law_wide 0 [m2 pvPow (mC (.int 10)) (mC (.int 9))])) [8])])) (mSeq (mSet 3 (mTup [m2 pvIx (mFrz (mArgs [mC (.str "row"), mC (.str "ring")])) (mCallBx f__law_take 0 [mC (.int 2)]), mName 2])) (mSeq (mParG [4, 5] [.v (mCallB (on1 pvTuple) [mFrz (mComp (mSeqI (mName 2)) (mgName 9) (mYes) (mCallBx f__law_wide 0 [m2 pvAdd (mName 9) (mC (.int 1))]) [9])]), .f (mComp (mSeqI (mName 2)) (mgName 9) (mYes) (mCallBx f__law_wide 0 [m2 pvAdd (mName 9) (mC (.int 1))]) [9])]) (mSeq (mFor (mRange [mName 1]) (mgName 6) (mSeq (mSet 7 (m2 pvMul (m2 pvSub (mCallB (on1 pvSum) [mName 4]) (mSumN 5)) (mCallB (on1 pvInt) [m2 pvEq (mIxN 3 (mC (.int 0))) (mC (.str "ring"))]))) (mSetIx 5 (mName 6) (mCallB (pvMax) [mC (.int 0), mCallB (pvMin) [mIxN 2 (mName 6), m2 pvAdd (mIxN 5 (mName 6)) (mName 7)]])))) (mRet (mTup [mName 3, mName 4, mCallB (on1 pvTuple) [mName 5]]))))))
noncomputable def f__law_great_two : FB := runB n__law_great_two c__law_great_two
/-! columns_of -/
abbrev n_columns_of : List Str := ["prices", "gate", "row"]
noncomputable def c_columns_of : MS := mRet (mFrz (mComp (mRange [mLenN 0]) (mgName 1) (mYes) (mFrz (mComp (mSeqI (mName 0)) (mgName 2) (mYes) (mIxN 2 (mName 1)) [2])) [1]))
noncomputable def f_columns_of : FP := runP n_columns_of c_columns_of
/-! least_sum -/
abbrev n_least_sum : List Str := ["row", "column", "first", "then"]
noncomputable def c_least_sum : MS := mRet (mCallB pvMin1 [m2 pvAdd (mFrz (mArgs [mC (.int 1000000000000000000000000000000000000000000000000000000000000)])) (mFrz (mComp (mZipS [mName 0, mName 1]) (mgTup (mgCons (mgName 2) (mgCons (mgName 3) (mgNil)))) (mYes) (m2 pvAdd (mName 2) (mName 3)) [2, 3]))])
noncomputable def f_least_sum : FP := runP n_least_sum c_least_sum
/-! joined_k67 -/
abbrev n_joined_k67 : List Str := ["one", "other", "columns", "row", "column"]
noncomputable def c_joined_k67 : MS := mSeq (mSet 2 (mCall f_columns_of [mName 1])) (mRet (mFrz (mComp (mSeqI (mName 0)) (mgName 3) (mYes) (mFrz (mComp (mSeqI (mName 2)) (mgName 4) (mYes) (mCall f_least_sum [mName 3, mName 4]) [4])) [3])))
noncomputable def f_joined_k67 : FP := runP n_joined_k67 c_joined_k67
/-! led_by -/
abbrev n_led_by : List Str := ["prices", "counts", "found", "row", "price", "number"]
noncomputable def c_led_by : MS := mSeq (mSetF 2 (mArgs [])) (mSeq (mFor (mSeqI (mName 0)) (mgName 3) (mAppend 2 (mCallB pvMin1 [mFrz (mComp (mZipS [mName 3, mName 1]) (mgTup (mgCons (mgName 4) (mgCons (mgName 5) (mgNil)))) (mTest (m2 pvLt (mName 4) (mC (.int 1000000000000000000000000000000000000000000000000000000000000)))) (m2 pvAdd (mName 4) (mName 5)) [4, 5])]))) (mRet (mCallB (on1 pvTuple) [mName 2])))
noncomputable def f_led_by : FP := runP n_led_by c_led_by
/-! led_back_by -/
abbrev n_led_back_by : List Str := ["prices", "counts", "found", "column", "price", "number"]
noncomputable def c_led_back_by : MS := mSeq (mSetF 2 (mArgs [])) (mSeq (mFor (mSeqI (mCall f_columns_of [mName 0])) (mgName 3) (mAppend 2 (mCallB pvMax1 [mFrz (mComp (mZipS [mName 3, mName 1]) (mgTup (mgCons (mgName 4) (mgCons (mgName 5) (mgNil)))) (mTest (m2 pvLt (mName 4) (mC (.int 1000000000000000000000000000000000000000000000000000000000000)))) (m2 pvSub (mName 5) (mName 4)) [4, 5])]))) (mRet (mCallB (on1 pvTuple) [mName 2])))
noncomputable def f_led_back_by : FP := runP n_led_back_by c_led_back_by
/-! _law_is_near -/
abbrev n__law_is_near : List Str := ["_law_at", "_law_ticks", "_law_more", "_law_gate", "_law_mine", "_law_its"]
noncomputable def c__law_is_near : MS := mSeq (mFor (mEnZ [mName 1, mName 2]) (mgTup (mgCons (mgName 3) (mgCons (mgTup (mgCons (mgName 4) (mgCons (mgName 5) (mgNil)))) (mgNil)))) (mIfS (mTest (m2 pvNotIn (m2 pvSub (mName 5) (mName 4)) (mIf (mTest (m2 pvLe (mName 3) (mName 0))) (mTup [m1 pvNeg (mC (.int 1)), mC (.int 0)]) (mTup [mC (.int 0), mC (.int 1)])))) (mRet (mC (.bl false))) (mNil))) (mRet (mC (.bl true)))
noncomputable def f__law_is_near : FP := runP n__law_is_near c__law_is_near
/-! lowest -/
abbrev n_lowest : List Str := ["top", "bottom", "one", "other"]
noncomputable def c_lowest : MS := mSeq (mPar 2 3 [mName 0, mName 1]) (mSeq (mWhile (mTest (m2 pvGt (mName 3) (mC (.int 0)))) (mPar 2 3 [mName 3, m2 pvMod (mName 2) (mName 3)])) (mRet (mTup [m2 pvDiv (mName 0) (mName 2), m2 pvDiv (mName 1) (mName 2)])))
noncomputable def f_lowest : FP := runP n_lowest c_lowest
/-! pace_bounds -/
abbrev n_pace_bounds : List Str := ["line", "widths", "standing", "found", "held", "width", "room"]
noncomputable def c_pace_bounds : MS := mSeq (mSetF 3 (mCat (mFrz (mComp (mSeqI (mName 1)) (mgName 5) (mTest (m2 pvIsNot (mName 5) (mC .non))) (mTup [mName 5, mC (.int 1)]) [5])) (mFrz (mComp (mSeqI (mIxN 0 (mC (.int 1)))) (mgName 6) (mYes) (mTup [mName 6, mC (.int 2)]) [6])))) (mSeq (mIfS (mTest (mCall f_is_ring [mName 0])) (mSeq (mSet 4 (mCallB (on1 pvSum) [mName 2])) (mExtend 3 (mFrz (mArgs [mTup [mName 4, mCall f_bins [mName 0]], mTup [m2 pvSub (mCallB (on1 pvSum) [mIxN 0 (mC (.int 1))]) (mName 4), mCall f_bins [mName 0]]])))) (mNil)) (mRet (mName 3)))
noncomputable def f_pace_bounds : FP := runP n_pace_bounds c_pace_bounds
/-! least_of -/
abbrev n_least_of : List Str := ["fractions", "best", "top", "bottom"]
noncomputable def c_least_of : MS := mSeq (mSet 1 (mIxN 0 (mC (.int 0)))) (mSeq (mFor (mSeqI (mName 0)) (mgTup (mgCons (mgName 2) (mgCons (mgName 3) (mgNil)))) (mIfS (mTest (m2 pvLt (m2 pvMul (mName 2) (mIxN 1 (mC (.int 1)))) (m2 pvMul (mIxN 1 (mC (.int 0))) (mName 3)))) (mSet 1 (mTup [mName 2, mName 3])) (mNil))) (mRet (mCall f_lowest [mIxN 1 (mC (.int 0)), mIxN 1 (mC (.int 1))])))
noncomputable def f_least_of : FP := runP n_least_of c_least_of
/-! pace -/
abbrev n_pace : List Str := ["line", "widths", "standing"]
noncomputable def c_pace : MS := mRet (mCall f_least_of [mCall f_pace_bounds [mName 0, mName 1, mName 2]])
noncomputable def f_pace : FP := runP n_pace c_pace
/-! _law_take_k50 -/
abbrev n__law_take_k50 : List Str := ["_law_box_here", "_law_size", "_law_found", "_law_once"]
noncomputable def c__law_take_k50 : MS := mSeq (mIfS (mTest (m2 pvGt (mIxN 0 (mC (.int 0))) (mC (.int 0)))) (mSeq (mSet 2 (m2 pvMod (mIxN 0 (mC (.int 0))) (mName 1))) (mSeq (mSetIx 0 (mC (.int 0)) (m2 pvDiv (mIxN 0 (mC (.int 0))) (mName 1))) (mRet (mName 2)))) (mNil)) (mSeq (mSetIx 0 (mC (.int 2)) (m2 pvAdd (mIxN 0 (mC (.int 2))) (mC (.int 1)))) (mSeq (mSet 3 (m2 pvMod (m2 pvPow (m2 pvAdd (mIxN 0 (mC (.int 1))) (m2 pvMul (mC (.int 39373)) (mIxN 0 (mC (.int 2))))) (mC (.int 5))) (mC (.int 2147483647)))) (mRet (m2 pvMod (m2 pvDiv (m2 pvMod (m2 pvAdd (m2 pvMul (mName 3) (m2 pvAdd (m2 pvMod (mName 3) (mC (.int 40009))) (mC (.int 7)))) (m2 pvMul (mIxN 0 (mC (.int 2))) (mC (.int 7919)))) (mC (.int 2147483629))) (mC (.int 64))) (mName 1)))))
noncomputable def f__law_take_k50 : FB := runB n__law_take_k50 c__law_take_k50
/-! _law_pick -/
abbrev n__law_pick : List Str := ["_law_box_here", "_law_some"]
noncomputable def c__law_pick : MS := mRet (mIxN 1 (mCallBx f__law_take_k50 0 [mLenN 1]))
noncomputable def f__law_pick : FB := runB n__law_pick c__law_pick
/-! _law_folded -/
abbrev n__law_folded : List Str := ["_law_script", "_law_size", "_law_cells", "_law_k", "_law_cell"]
noncomputable def c__law_folded : MS := mSeq (mSetF 2 (mCallF pvList [mCut (mName 0) none (some (mName 1))])) (mSeq (mFor (mEnum [mCut (mName 0) (some (mName 1)) (some (mC (.int 63)))]) (mgTup (mgCons (mgName 3) (mgCons (mgName 4) (mgNil)))) (mSetIx 2 (m2 pvMod (mName 3) (mName 1)) (m2 pvAdd (mIxN 2 (m2 pvMod (mName 3) (mName 1))) (m2 pvMul (mName 4) (m2 pvAdd (mName 3) (mC (.int 2))))))) (mRet (mIf (mCmpN true 2 (mFrz (mArgs []))) (mName 2) (mFrz (mArgs [mC (.int 0)])))))
noncomputable def f__law_folded : FP := runP n__law_folded c__law_folded
/-! _law_line_k50 -/
abbrev n__law_line_k50 : List Str := ["_law_box_here", "_law_most", "_law_wide", "_law_form", "_law_least", "_law_top", "_law_k"]
noncomputable def c__law_line_k50 : MS := mSeq (mSet 3 (mCallBx f__law_pick 0 [mFrz (mArgs [mC (.str "row"), mC (.str "row"), mC (.str "ring")])])) (mSeq (mSet 4 (m2 pvAdd (mC (.int 1)) (mCallB (on1 pvInt) [m2 pvEq (mName 3) (mC (.str "ring"))]))) (mSeq (mSet 5 (mCallBx f__law_pick 0 [mFrz (mArgs [mC (.int 1), mC (.int 2), mC (.int 3), mName 2, mName 2])])) (mRet (mTup [mName 3, mCallB (on1 pvTuple) [mFrz (mComp (mRange [m2 pvAdd (mName 4) (mCallBx f__law_take_k50 0 [m2 pvSub (m2 pvAdd (mName 1) (mC (.int 1))) (mName 4)])]) (mgName 6) (mYes) (m2 pvAdd (mC (.int 1)) (mCallBx f__law_take_k50 0 [mName 5])) [6])]]))))
noncomputable def f__law_line_k50 : FB := runB n__law_line_k50 c__law_line_k50
/-! _law_gates -/
abbrev n__law_gates : List Str := ["_law_line_here"]
noncomputable def c__law_gates : MS := mRet (m2 pvAdd (mCallB (on1 pvLen) [mIxN 0 (mC (.int 1))]) (mCallB (on1 pvInt) [m2 pvEq (mIxN 0 (mC (.int 0))) (mC (.str "row"))]))
noncomputable def f__law_gates : FP := runP n__law_gates c__law_gates
/-! _law_widths -/
abbrev n__law_widths : List Str := ["_law_box_here", "_law_line_here", "_law_wide", "_law_odds", "_law_found", "_law_gate", "_law_width"]
noncomputable def c__law_widths : MS := mSeq (mSet 3 (mCallBx f__law_pick 0 [mFrz (mArgs [mFrz (mArgs [mC .non]), mFrz (mArgs [mC .non, mC .non, mName 2]), mFrz (mArgs [mName 2]), mFrz (mArgs [mC (.int 0), mC (.int 1), mName 2, mC .non]), mFrz (mArgs [mC (.int 1), mC (.int 2), mName 2])])])) (mSeq (mSetF 4 (mArgs [])) (mSeq (mFor (mRange [mCall f__law_gates [mName 1]]) (mgName 5) (mSeq (mSet 6 (mCallBx f__law_pick 0 [mName 3])) (mAppend 4 (mIf (mOr (mTest (m2 pvIs (mName 6) (mC .non))) (mTest (m2 pvLt (mName 6) (mC (.int 3))))) (mName 6) (m2 pvAdd (mC (.int 1)) (mCallBx f__law_take_k50 0 [mName 6])))))) (mSeq (mIfS (mAnd (mTest (m2 pvEq (mIxN 1 (mC (.int 0))) (mC (.str "row")))) (mTest (m2 pvEq (mCallBx f__law_take_k50 0 [mC (.int 2)]) (mC (.int 0))))) (mSetF 4 (mCat (m2 pvAdd (mFrz (mArgs [mC (.int 0)])) (mCut (mName 4) (some (mC (.int 1))) (some (m1 pvNeg (mC (.int 1)))))) (mFrz (mArgs [mC (.int 0)])))) (mNil)) (mRet (mCallB (on1 pvTuple) [mName 4])))))
noncomputable def f__law_widths : FB := runB n__law_widths c__law_widths
/-! _law_lying -/
abbrev n__law_lying : List Str := ["_law_box_here", "_law_line_here", "_law_odds", "_law_found", "_law_room"]
noncomputable def c__law_lying : MS := mSeq (mSet 2 (mCallBx f__law_pick 0 [mFrz (mArgs [mFrz (mArgs [mC (.int 0), mC (.int 1), mC (.int 2)]), mFrz (mArgs [mC (.int 2)]), mFrz (mArgs [mC (.int 2)]), mFrz (mArgs [mC (.int 0), mC (.int 2)]), mFrz (mArgs [mC (.int 1), mC (.int 2)])])])) (mSeq (mSetF 3 (mArgs [])) (mSeq (mFor (mSeqI (mIxN 1 (mC (.int 1)))) (mgName 4) (mAppend 3 (mCallBx f__law_pick 0 [mCut (mFrz (mArgs [mC (.int 0), mName 4, mCallBx f__law_take_k50 0 [m2 pvAdd (mName 4) (mC (.int 1))]])) none (some (m2 pvAdd (mC (.int 1)) (mCallBx f__law_pick 0 [mName 2])))]))) (mRet (mCallB (on1 pvTuple) [mName 3]))))
noncomputable def f__law_lying : FB := runB n__law_lying c__law_lying
/-! _law_fraction -/
abbrev n__law_fraction : List Str := ["_law_top", "_law_bottom", "_law_one", "_law_other"]
noncomputable def c__law_fraction : MS := mSeq (mPar 2 3 [mName 0, mName 1]) (mSeq (mWhile (mTest (m2 pvGt (mName 3) (mC (.int 0)))) (mPar 2 3 [mName 3, m2 pvMod (mName 2) (mName 3)])) (mRet (mTup [m2 pvDiv (mName 0) (mName 2), m2 pvDiv (mName 1) (mName 2)])))
noncomputable def f__law_fraction : FP := runP n__law_fraction c__law_fraction
/-! _law_pace -/
abbrev n__law_pace : List Str := ["_law_line_here", "_law_widths_here", "_law_lot", "_law_some", "_law_best", "_law_top", "_law_bottom", "_law_width", "_law_room"]
noncomputable def c__law_pace : MS := mSeq (mSet 3 (m2 pvAdd (mFrz (mComp (mSeqI (mName 1)) (mgName 7) (mTest (m2 pvIsNot (mName 7) (mC .non))) (mTup [m2 pvMul (mC (.int 2)) (mName 7), mC (.int 2)]) [7])) (mFrz (mComp (mSeqI (mIxN 0 (mC (.int 1)))) (mgName 8) (mYes) (mTup [mName 8, mC (.int 2)]) [8])))) (mSeq (mIfS (mTest (m2 pvEq (mIxN 0 (mC (.int 0))) (mC (.str "ring")))) (mSet 3 (m2 pvAdd (mName 3) (mFrz (mArgs [mTup [mCallB (on1 pvSum) [mName 2], mLenN 2], mTup [m2 pvSub (mCallB (on1 pvSum) [mIxN 0 (mC (.int 1))]) (mCallB (on1 pvSum) [mName 2]), mLenN 2]])))) (mNil)) (mSeq (mSet 4 (mIxN 3 (mC (.int 0)))) (mSeq (mFor (mSeqI (mName 3)) (mgTup (mgCons (mgName 5) (mgCons (mgName 6) (mgNil)))) (mIfS (mTest (m2 pvLt (m2 pvMul (mName 5) (mIxN 4 (mC (.int 1)))) (m2 pvMul (mIxN 4 (mC (.int 0))) (mName 6)))) (mSet 4 (mTup [mName 5, mName 6])) (mNil))) (mRet (mCall f__law_fraction [mIxN 4 (mC (.int 0)), mIxN 4 (mC (.int 1))])))))
noncomputable def f__law_pace : FP := runP n__law_pace c__law_pace
/-! best_ring -/
abbrev n_best_ring : List Str := ["rooms", "widths", "total", "line", "half", "ends", "top", "bottom", "least", "width", "room"]
noncomputable def c_best_ring : MS := mSeq (mPar 2 3 [mCallB (on1 pvSum) [mName 0], mTup [mC (.str "ring"), mCallB (on1 pvTuple) [mName 0]]]) (mSeq (mSet 4 (m2 pvDiv (mName 2) (mC (.int 2)))) (mSeq (mSet 5 (m2 pvAdd (mFrz (mArgs [mTup [mName 4, mLenN 0]])) (mFrz (mComp (mSeqI (mName 1)) (mgName 9) (mTest (m2 pvIsNot (mName 9) (mC .non))) (mTup [mName 9, mC (.int 1)]) [9])))) (mSeq (mAsg (mgTup (mgCons (mgName 6) (mgCons (mgName 7) (mgNil)))) (mCall f_least_of [m2 pvAdd (mName 5) (mFrz (mComp (mSeqI (mIxN 3 (mC (.int 1)))) (mgName 10) (mYes) (mTup [mName 10, mC (.int 2)]) [10]))])) (mSeq (mSet 8 (m1 pvNeg (m2 pvDiv (m2 pvMul (m1 pvNeg (mLenN 0)) (mName 6)) (mName 7)))) (mRet (mTup [mTup [mName 6, mName 7], mTup [mName 8, m2 pvSub (mName 2) (mName 8)]]))))))
noncomputable def f_best_ring : FP := runP n_best_ring c_best_ring
/-! _law_gates_k54 -/
abbrev n__law_gates_k54 : List Str := ["_law_line"]
noncomputable def c__law_gates_k54 : MS := mRet (m2 pvAdd (mCallB (on1 pvLen) [mIxN 0 (mC (.int 1))]) (mCallB (on1 pvInt) [m2 pvEq (mIxN 0 (mC (.int 0))) (mC (.str "row"))]))
noncomputable def f__law_gates_k54 : FP := runP n__law_gates_k54 c__law_gates_k54
/-! _law_widths_k54 -/
abbrev n__law_widths_k54 : List Str := ["_law_box_here", "_law_line", "_law_wide", "_law_odds", "_law_found", "_law_gate", "_law_width"]
noncomputable def c__law_widths_k54 : MS := mSeq (mSet 3 (mCallBx f__law_pick 0 [mFrz (mArgs [mFrz (mArgs [mC .non]), mFrz (mArgs [mC .non, mC .non, mName 2]), mFrz (mArgs [mName 2]), mFrz (mArgs [mC (.int 0), mC (.int 1), mName 2, mC .non]), mFrz (mArgs [mC (.int 1), mC (.int 2), mName 2])])])) (mSeq (mSetF 4 (mArgs [])) (mSeq (mFor (mRange [mCall f__law_gates_k54 [mName 1]]) (mgName 5) (mSeq (mSet 6 (mCallBx f__law_pick 0 [mName 3])) (mAppend 4 (mIf (mOr (mTest (m2 pvIs (mName 6) (mC .non))) (mTest (m2 pvLt (mName 6) (mC (.int 3))))) (mName 6) (m2 pvAdd (mC (.int 1)) (mCallBx f__law_take_k50 0 [mName 6])))))) (mSeq (mIfS (mAnd (mTest (m2 pvEq (mIxN 1 (mC (.int 0))) (mC (.str "row")))) (mTest (m2 pvEq (mCallBx f__law_take_k50 0 [mC (.int 2)]) (mC (.int 0))))) (mSetF 4 (mCat (m2 pvAdd (mFrz (mArgs [mC (.int 0)])) (mCut (mName 4) (some (mC (.int 1))) (some (m1 pvNeg (mC (.int 1)))))) (mFrz (mArgs [mC (.int 0)])))) (mNil)) (mRet (mCallB (on1 pvTuple) [mName 4])))))
noncomputable def f__law_widths_k54 : FB := runB n__law_widths_k54 c__law_widths_k54
/-! _law_pace_k54 -/
abbrev n__law_pace_k54 : List Str := ["_law_line", "_law_widths_here", "_law_lot", "_law_some", "_law_best", "_law_top", "_law_bottom", "_law_width", "_law_room"]
noncomputable def c__law_pace_k54 : MS := mSeq (mSet 3 (m2 pvAdd (mFrz (mComp (mSeqI (mName 1)) (mgName 7) (mTest (m2 pvIsNot (mName 7) (mC .non))) (mTup [m2 pvMul (mC (.int 2)) (mName 7), mC (.int 2)]) [7])) (mFrz (mComp (mSeqI (mIxN 0 (mC (.int 1)))) (mgName 8) (mYes) (mTup [mName 8, mC (.int 2)]) [8])))) (mSeq (mIfS (mTest (m2 pvEq (mIxN 0 (mC (.int 0))) (mC (.str "ring")))) (mSet 3 (m2 pvAdd (mName 3) (mFrz (mArgs [mTup [mCallB (on1 pvSum) [mName 2], mLenN 2], mTup [m2 pvSub (mCallB (on1 pvSum) [mIxN 0 (mC (.int 1))]) (mCallB (on1 pvSum) [mName 2]), mLenN 2]])))) (mNil)) (mSeq (mSet 4 (mIxN 3 (mC (.int 0)))) (mSeq (mFor (mSeqI (mName 3)) (mgTup (mgCons (mgName 5) (mgCons (mgName 6) (mgNil)))) (mIfS (mTest (m2 pvLt (m2 pvMul (mName 5) (mIxN 4 (mC (.int 1)))) (m2 pvMul (mIxN 4 (mC (.int 0))) (mName 6)))) (mSet 4 (mTup [mName 5, mName 6])) (mNil))) (mRet (mCall f__law_fraction [mIxN 4 (mC (.int 0)), mIxN 4 (mC (.int 1))])))))
noncomputable def f__law_pace_k54 : FP := runP n__law_pace_k54 c__law_pace_k54
/-! _law_held -/
abbrev n__law_held : List Str := ["_law_line", "_law_many", "_law_found", "_law_room"]
noncomputable def c__law_held : MS := mSeq (mSetF 2 (mArgs [])) (mSeq (mFor (mSeqI (mIxN 0 (mC (.int 1)))) (mgName 3) (mSeq (mAppend 2 (mCallB (pvMin) [mName 3, mName 1])) (mSet 1 (m2 pvSub (mName 1) (mIxN 2 (m1 pvNeg (mC (.int 1)))))))) (mRet (mCallB (on1 pvTuple) [mName 2])))
noncomputable def f__law_held : FP := runP n__law_held c__law_held
/-! _law_is_less -/
abbrev n__law_is_less : List Str := ["_law_one", "_law_other"]
noncomputable def c__law_is_less : MS := mRet (m2 pvLt (m2 pvMul (mIxN 0 (mC (.int 0))) (mIxN 1 (mC (.int 1)))) (m2 pvMul (mIxN 1 (mC (.int 0))) (mIxN 0 (mC (.int 1)))))
noncomputable def f__law_is_less : FP := runP n__law_is_less c__law_is_less
/-! _law_dealt -/
abbrev n__law_dealt : List Str := ["_law_box_here", "_law_line_here", "_law_left", "_law_found", "_law_k", "_law_room", "_law_beyond", "_law_least", "_law_most"]
noncomputable def c__law_dealt : MS := mSeq (mSetF 3 (mArgs [])) (mSeq (mFor (mEnum [mIxN 1 (mC (.int 1))]) (mgTup (mgCons (mgName 4) (mgCons (mgName 5) (mgNil)))) (mSeq (mSet 6 (mCallB (on1 pvSum) [mCut (mIxN 1 (mC (.int 1))) (some (m2 pvAdd (mName 4) (mC (.int 1)))) none])) (mSeq (mPar 7 8 [mCallB (pvMax) [mC (.int 0), m2 pvSub (mName 2) (mName 6)], mCallB (pvMin) [mName 5, mName 2]]) (mSeq (mAppend 3 (m2 pvAdd (mName 7) (mCallBx f__law_take_k50 0 [m2 pvAdd (m2 pvSub (mName 8) (mName 7)) (mC (.int 1))]))) (mSet 2 (m2 pvSub (mName 2) (mIxN 3 (m1 pvNeg (mC (.int 1)))))))))) (mRet (mCallB (on1 pvTuple) [mName 3])))
noncomputable def f__law_dealt : FB := runB n__law_dealt c__law_dealt
end Ev

set_option maxHeartbeats 4000000
set_option Elab.async false
set_option linter.all false
set_option maxRecDepth 100000
namespace Ev
open PySem L2
/-! _law_right -/
abbrev n__law_right : List Str := ["_law_box_here", "_law_own", "_law_lies_here", "_law_there", "_law_run", "_law_turn", "_law_some", "_law_here", "_law_its", "_law_reach", "_law_part", "_law_now", "_law_ticks", "_law_more", "_law_tied", "_law_door", "_law_first", "_law_last", "_law_tick", "_law_number"]
noncomputable def c__law_right : MS := mSeq (mSet 1 (mCallBx f__law_line 0 [mC (.int 6)])) (mSeq (mAsg (mgTup (mgCons (mgName 2) (mgCons (mgName 3) (mgNil)))) (mCallBx f__law_two 0 [mName 1])) (mSeq (mIfS (mTest (m2 pvEq (mCallBx f__law_take 0 [mC (.int 3)]) (mC (.int 0)))) (mAsg (mgTup (mgCons (mgName 1) (mgCons (mgName 2) (mgCons (mgName 3) (mgNil))))) (mCallBx f__law_great_two 0 [])) (mNil)) (mSeq (mSetF 4 (mArgs [])) (mSeq (mFor (mRange [mCallBx f__law_take 0 [mC (.int 31)]]) (mgName 5) (mSeq (mSet 6 (mCallBx f__law_doors 0 [mName 1])) (mSeq (mSet 6 (mCallB (on1 pvTuple) [mFrz (mComp (mSeqI (mName 6)) (mgName 15) (mYes) (mCallBx f__law_of 0 [mFrz (mArgs [mName 15, mC .non, mCallBx f__law_wide 0 [m2 pvPow (mC (.int 10)) (mC (.int 9))]])]) [15])])) (mAppend 4 (mTup [mCallBx f__law_of 0 [mFrz (mArgs [mC (.str "forth"), mC (.str "back")])], mName 6]))))) (mSeq (mPar3 7 8 9 [mName 2, mName 3, mCall f_apart [mName 1, mName 2, mName 3]]) (mSeq (mFor (mSeqI (mName 4)) (mgName 10) (mSeq (mPar 7 8 [m2 pvIx (mCall f_led [mName 1, mName 7, mFrz (mArgs [mName 10])]) (mC (.int 0)), m2 pvIx (mCall f_led [mName 1, mName 8, mFrz (mArgs [mName 10])]) (mC (.int 0))]) (mSeq (mSet 11 (mCall f_apart [mName 1, mName 7, mName 8])) (mSeq (mIfS (mOr (mTest (m2 pvGt (mName 11) (mName 9))) (mAnd (mTest (m2 pvEq (mName 9) (mC (.int 0)))) (mTest (m2 pvNe (mName 7) (mName 8))))) (mRet (mC (.bl false))) (mNil)) (mSet 9 (mName 11)))))) (mSeq (mAsg (mgTup (mgCons (mgTup (mgCons (mgName 7) (mgCons (mgName 12) (mgNil)))) (mgCons (mgTup (mgCons (mgName 8) (mgCons (mgName 13) (mgNil)))) (mgNil)))) (mTup [mCall f_led [mName 1, mName 2, mName 4], mCall f_led [mName 1, mName 3, mName 4]])) (mSeq (mSet 14 (mFrz (mComp (mZip3 [mCall f_between [mName 1, mName 2, mName 3], mName 13, mName 12]) (mgTup (mgCons (mgName 16) (mgCons (mgName 17) (mgCons (mgName 18) (mgNil))))) (mYes) (m2 pvSub (m2 pvAdd (mName 16) (mName 17)) (mName 18)) [16, 17, 18]))) (mRet (mCall (f__law_same_k65 6) [mCall f_between [mName 1, mName 7, mName 8], mCallB (on1 pvTuple) [mFrz (mComp (mSeqI (mName 14)) (mgName 19) (mYes) (m2 pvSub (mName 19) (mIxN 14 (mC (.int 0)))) [19])]]))))))))))
noncomputable def f__law_right : FB := runB n__law_right c__law_right
/-! law -/
abbrev n_law : List Str := ["_law_script", "_law_k", "_law_box_here", "_law_turn"]
noncomputable def c_law : MS := mSeq (mFor (mRange [mCallB (pvMax) [mC (.int 1), mCallB (pvMin) [mC (.int 3), mLenN 0]]]) (mgName 1) (mSeq (mSetF 2 (mCallFr f__law_box [mName 0, mName 1])) (mIfS (mNotT (mTest (mCallB (on1 pvAll) [mFrz (mComp (mRange [mC (.int 4)]) (mgName 3) (mYes) (mCallBx f__law_right 2 []) [3])]))) (mRet (mC (.bl false))) (mNil)))) (mRet (mC (.bl true)))
noncomputable def f_law : FP := runP n_law c_law
end Ev

set_option Elab.async false
set_option linter.all false
set_option maxRecDepth 100000
namespace Ev
open PySem L2
theorem hu65 {k : Nat} {A : Around} (r : Room k A) : A.units + 65 < cLine := by have := r.un; omega
/-! ### defs as the top has left them -/
structure DefAt (K : PySem.W.Frag) (mg : Str → Option Value) (x : Str) (st : Stmt) (ps : List Str) (f : Addr) (fd : FuncData) : Prop where
  m : mg x = some (.ref f)
  F : Fun K x x st f fd
  b : Binds K fd ps []
  bt : ∀ (s : Shared) (us : List Value), us.length = ps.length → BindsTo s fd ⟨us, []⟩ (ps.zip us)
  bk : ∀ (args : Args) (bs : List (Str × Value)), (∀ (kV doc pm : Value) (an : Option Addr) (cdv ct : Value), bindArgs (PySem.W.fnOf x x (defArgs st) (defBody st) (defScope st) .none kV doc pm an cdv ct) args = pure bs) → ∀ s : Shared, BindsTo s fd args bs
theorem def_at {K : PySem.W.Frag} {mg : Str → Option Value} {h : Heap} (X : K.In h) (G : h.Ns mainGlobals mg) {fa : List He.Fa} {fn : List He.FnD} (c : He.SaysE fa fn K) {x : Str} {st : Stmt} {ps : List Str} (i j : Nat)
    (hd : fn[i]? = some ⟨(x, none), x, x, defArgs st, defBody st, defScope st⟩) (hg : fa[j]? = some (.glo x)) (hk : fa[j + 1]? = some (.keep x))
    (hb : ∀ (kV doc pm : Value) (an : Option Addr) (cdv ct : Value) (us : List Value), us.length = ps.length → bindArgs (PySem.W.fnOf x x (defArgs st) (defBody st) (defScope st) .none kV doc pm an cdv ct) ⟨us, []⟩ = pure (ps.zip us)) :
    ∃ fd, DefAt K mg x st ps (He.ga K x) fd := by
  obtain ⟨oc, od, osl, kV, doc, pm, an, cdv, ct, l, cc⟩ := c.def_ i hd
  have F := fun_mk (st := st) l cc (He.keep_ok (c.fact (j + 1) hk))
  exact ⟨_, He.glo_ok X G (c.fact j hg), F, F.binds hb, fun s us hl => .of_eq (hb kV doc pm an cdv ct us hl), fun args bs h s => .of_eq (h kV doc pm an cdv ct)⟩
theorem fn_calm {P : Program} {w : World} {K : PySem.W.Frag} {mg : Str → Option Value} {base : Heap} {k : Nat} {f : Addr} {fd : FuncData} {ps : List Str} {sp : Sp} (F : FnG P w K mg base (L2.CX P w) k f fd ps sp) :
    FnG P w K mg base CX0 k f fd ps (fun vs H Q _ => sp vs H Q (fun _ _ _ => False)) :=
  ⟨fun vs H Q _ h => F.len vs H Q _ h, fun A outer s H args us vs Q E hr gd he hb hv hs => codeAny_mono (F.run A outer s H args us vs Q _ hr gd he hb hv hs) fun r s' q => by
    cases r with
    | ok u => cases u with
      | ret v => exact q
      | _ => exact q
    | error e => obtain ⟨_, _, _, _, _, _, _, _, _, _, _, _, z⟩ := q; exact z⟩
/-- the law's own word from its mirror's -/
theorem sp_law {K : PySem.W.Frag} {mg : Str → Option Value} {f : FP} (h : ∀ ns : List Int, ns.length ≤ 63 → f [.scr ns] = .ok (.bl true)) (H : Hp) (a : Addr) (ns : List Int) (hl : ns.length ≤ 63) (hS : SqL K H a (ns.map V.int)) :
    spP K mg 1 f [.ref a] H (fun v _ => v = .bl true) (fun _ _ _ => False) := by
  refine ⟨rfl, H, [.scr ns], Same.refl _, Reps.cons (by unfold Rep; exact ⟨a, rfl, hS⟩) Reps.nil, ?_⟩
  rw [h ns hl]
  intro F' H' v _ _ _ _ r
  unfold Rep at r
  exact r
theorem law_end {P : Program} {w : World} {K : PySem.W.Frag} {mg : Str → Option Value} {h : Heap} {fa : Addr} {fd : FuncData} {st : Stmt} {x y : Str} {k : Nat} {f : FP} (KX : K.In h) (hmg : mg x = some (.ref fa)) {f0 : Addr} (d : DefAt K mg x st [y] f0 fd)
    (ok : ∀ base : Heap, FnG P w K mg base (L2.CX P w) k f0 fd [y] (spP K mg 1 f)) (hl : ∀ ns : List Int, ns.length ≤ 63 → f [.scr ns] = .ok (.bl true)) :
    ∃ (K : PySem.W.Frag) (fd : FuncData) (sp : Sp), K.In h ∧ (∀ (s : Shared) (u : Value), BindsTo s fd ⟨[u], []⟩ [(y, u)]) ∧
        (∀ (H : Hp) (a : Addr) (ns : List Int), ns.length ≤ 63 → Only H → SqL K H a (ns.map V.int) → sp [.ref a] H (fun v _ => v = .bl true) fun _ _ _ => False) ∧
        ∀ base : Heap, K.In base → base.Ns mainGlobals mg → FnG P w K mg base CX0 k fa fd [y] sp := by
  have e : f0 = fa := by
    have e1 := d.m.symm.trans hmg
    injection e1 with e1
    injection e1
  subst e
  exact ⟨K, fd, (fun vs H Q _ => spP K mg 1 f vs H Q (fun _ _ _ => False)), KX, fun s v => d.bt s [v] rfl, fun H a ns hl' _ hS => sp_law hl H a ns hl' hS, fun base _ _ => fn_calm (ok base)⟩
end Ev

set_option maxHeartbeats 4000000
set_option Elab.async false
set_option linter.all false
set_option maxRecDepth 100000
namespace Ev
open PySem L2
/-! the text by places -/
def topS (i : Nat) : Stmt := PySem.Challenge.pw_forthback_k65_whole_never_further_apart.main.body.getD i (.Pass ⟨0, 0, 0, 0⟩)
abbrev st_is_ring : Stmt := topS 2
abbrev st_bins : Stmt := topS 3
abbrev st_gates : Stmt := topS 4
abbrev st_bin_behind : Stmt := topS 5
abbrev st_bin_ahead : Stmt := topS 6
abbrev st_gate_out : Stmt := topS 7
abbrev st_goes : Stmt := topS 10
abbrev st_moved : Stmt := topS 11
abbrev st_behind_counts : Stmt := topS 12
abbrev st_signed : Stmt := topS 13
abbrev st_beat : Stmt := topS 14
abbrev st_between : Stmt := topS 18
abbrev st_apart : Stmt := topS 19
abbrev st_summed : Stmt := topS 21
abbrev st_led : Stmt := topS 22
abbrev st__law_box : Stmt := topS 24
abbrev st__law_take : Stmt := topS 25
abbrev st__law_same : Stmt := topS 26
abbrev st__law_of : Stmt := topS 27
abbrev st__law_wide : Stmt := topS 28
abbrev st__law_line : Stmt := topS 29
abbrev st__law_doors : Stmt := topS 30
abbrev st__law_lies : Stmt := topS 31
abbrev st__law_two : Stmt := topS 32
abbrev st__law_great_two : Stmt := topS 33
abbrev st__law_right : Stmt := topS 34
abbrev st_law : Stmt := topS 35
theorem sc_is_ring : FnScope n_is_ring ["line"] (defScope st_is_ring) := ⟨rfl, rfl, rfl, by decide +kernel, rfl, by decide +kernel, by decide +kernel⟩
theorem sc_bins : FnScope n_bins ["line"] (defScope st_bins) := ⟨rfl, rfl, rfl, by decide +kernel, rfl, by decide +kernel, by decide +kernel⟩
theorem sc_gates : FnScope n_gates ["line"] (defScope st_gates) := ⟨rfl, rfl, rfl, by decide +kernel, rfl, by decide +kernel, by decide +kernel⟩
theorem sc_bin_behind : FnScope n_bin_behind ["line", "gate"] (defScope st_bin_behind) := ⟨rfl, rfl, rfl, by decide +kernel, rfl, by decide +kernel, by decide +kernel⟩
theorem sc_bin_ahead : FnScope n_bin_ahead ["line", "gate"] (defScope st_bin_ahead) := ⟨rfl, rfl, rfl, by decide +kernel, rfl, by decide +kernel, by decide +kernel⟩
theorem sc_gate_out : FnScope n_gate_out ["line", "place"] (defScope st_gate_out) := ⟨rfl, rfl, rfl, by decide +kernel, rfl, by decide +kernel, by decide +kernel⟩
theorem sc_goes : FnScope n_goes ["line", "widths", "standing", "way", "gate"] (defScope st_goes) := ⟨rfl, rfl, rfl, by decide +kernel, rfl, by decide +kernel, by decide +kernel⟩
theorem sc_moved : FnScope n_moved ["line", "widths", "standing", "way"] (defScope st_moved) := ⟨rfl, rfl, rfl, by decide +kernel, rfl, by decide +kernel, by decide +kernel⟩
theorem sc_behind_counts : FnScope n_behind_counts ["line", "standing", "counts"] (defScope st_behind_counts) := ⟨rfl, rfl, rfl, by decide +kernel, rfl, by decide +kernel, by decide +kernel⟩
theorem sc_signed : FnScope n_signed ["went", "way"] (defScope st_signed) := ⟨rfl, rfl, rfl, by decide +kernel, rfl, by decide +kernel, by decide +kernel⟩
theorem sc_beat : FnScope n_beat ["line", "widths", "standing", "way"] (defScope st_beat) := ⟨rfl, rfl, rfl, by decide +kernel, rfl, by decide +kernel, by decide +kernel⟩
theorem sc_between : FnScope n_between ["line", "one", "other"] (defScope st_between) := ⟨rfl, rfl, rfl, by decide +kernel, rfl, by decide +kernel, by decide +kernel⟩
theorem sc_apart : FnScope n_apart ["line", "one", "other"] (defScope st_apart) := ⟨rfl, rfl, rfl, by decide +kernel, rfl, by decide +kernel, by decide +kernel⟩
theorem sc_summed : FnScope n_summed ["one", "other"] (defScope st_summed) := ⟨rfl, rfl, rfl, by decide +kernel, rfl, by decide +kernel, by decide +kernel⟩
theorem sc_led : FnScope n_led ["line", "standing", "run"] (defScope st_led) := ⟨rfl, rfl, rfl, by decide +kernel, rfl, by decide +kernel, by decide +kernel⟩
theorem sc__law_box : FnScope n__law_box ["_law_script", "_law_k"] (defScope st__law_box) := ⟨rfl, rfl, rfl, by decide +kernel, rfl, by decide +kernel, by decide +kernel⟩
theorem sc__law_take : FnScope n__law_take ["_law_box_here", "_law_bound"] (defScope st__law_take) := ⟨rfl, rfl, rfl, by decide +kernel, rfl, by decide +kernel, by decide +kernel⟩
theorem sc__law_same : FnScope n__law_same_k65 ["_law_found", "_law_due"] (defScope st__law_same) := ⟨rfl, rfl, rfl, by decide +kernel, rfl, by decide +kernel, by decide +kernel⟩
theorem sc__law_of : FnScope n__law_of ["_law_box_here", "_law_some"] (defScope st__law_of) := ⟨rfl, rfl, rfl, by decide +kernel, rfl, by decide +kernel, by decide +kernel⟩
theorem sc__law_wide : FnScope n__law_wide ["_law_box_here", "_law_bound"] (defScope st__law_wide) := ⟨rfl, rfl, rfl, by decide +kernel, rfl, by decide +kernel, by decide +kernel⟩
theorem sc__law_line : FnScope n__law_line ["_law_box_here", "_law_most"] (defScope st__law_line) := ⟨rfl, rfl, rfl, by decide +kernel, rfl, by decide +kernel, by decide +kernel⟩
theorem sc__law_doors : FnScope n__law_doors ["_law_box_here", "_law_own"] (defScope st__law_doors) := ⟨rfl, rfl, rfl, by decide +kernel, rfl, by decide +kernel, by decide +kernel⟩
theorem sc__law_lies : FnScope n__law_lies ["_law_box_here", "_law_own"] (defScope st__law_lies) := ⟨rfl, rfl, rfl, by decide +kernel, rfl, by decide +kernel, by decide +kernel⟩
theorem sc__law_two : FnScope n__law_two ["_law_box_here", "_law_own"] (defScope st__law_two) := ⟨rfl, rfl, rfl, by decide +kernel, rfl, by decide +kernel, by decide +kernel⟩
theorem sc__law_great_two : FnScope n__law_great_two ["_law_box_here"] (defScope st__law_great_two) := ⟨rfl, rfl, rfl, by decide +kernel, rfl, by decide +kernel, by decide +kernel⟩
theorem sc__law_right : FnScope n__law_right ["_law_box_here"] (defScope st__law_right) := ⟨rfl, rfl, rfl, by decide +kernel, rfl, by decide +kernel, by decide +kernel⟩
theorem sc_law : FnScope n_law ["_law_script"] (defScope st_law) := ⟨rfl, rfl, rfl, by decide +kernel, rfl, by decide +kernel, by decide +kernel⟩
structure Top (K : PySem.W.Frag) (mg : Str → Option Value) where
  f_is_ring : Addr
  fd_is_ring : FuncData
  d_is_ring : DefAt K mg "is_ring" st_is_ring ["line"] f_is_ring fd_is_ring
  f_bins : Addr
  fd_bins : FuncData
  d_bins : DefAt K mg "bins" st_bins ["line"] f_bins fd_bins
  f_gates : Addr
  fd_gates : FuncData
  d_gates : DefAt K mg "gates" st_gates ["line"] f_gates fd_gates
  f_bin_behind : Addr
  fd_bin_behind : FuncData
  d_bin_behind : DefAt K mg "bin_behind" st_bin_behind ["line", "gate"] f_bin_behind fd_bin_behind
  f_bin_ahead : Addr
  fd_bin_ahead : FuncData
  d_bin_ahead : DefAt K mg "bin_ahead" st_bin_ahead ["line", "gate"] f_bin_ahead fd_bin_ahead
  f_gate_out : Addr
  fd_gate_out : FuncData
  d_gate_out : DefAt K mg "gate_out" st_gate_out ["line", "place"] f_gate_out fd_gate_out
  f_goes : Addr
  fd_goes : FuncData
  d_goes : DefAt K mg "goes" st_goes ["line", "widths", "standing", "way", "gate"] f_goes fd_goes
  f_moved : Addr
  fd_moved : FuncData
  d_moved : DefAt K mg "moved" st_moved ["line", "widths", "standing", "way"] f_moved fd_moved
  f_behind_counts : Addr
  fd_behind_counts : FuncData
  d_behind_counts : DefAt K mg "behind_counts" st_behind_counts ["line", "standing", "counts"] f_behind_counts fd_behind_counts
  f_signed : Addr
  fd_signed : FuncData
  d_signed : DefAt K mg "signed" st_signed ["went", "way"] f_signed fd_signed
  f_beat : Addr
  fd_beat : FuncData
  d_beat : DefAt K mg "beat" st_beat ["line", "widths", "standing", "way"] f_beat fd_beat
  f_between : Addr
  fd_between : FuncData
  d_between : DefAt K mg "between" st_between ["line", "one", "other"] f_between fd_between
  f_apart : Addr
  fd_apart : FuncData
  d_apart : DefAt K mg "apart" st_apart ["line", "one", "other"] f_apart fd_apart
  f_summed : Addr
  fd_summed : FuncData
  d_summed : DefAt K mg "summed" st_summed ["one", "other"] f_summed fd_summed
  f_led : Addr
  fd_led : FuncData
  d_led : DefAt K mg "led" st_led ["line", "standing", "run"] f_led fd_led
  f__law_box : Addr
  fd__law_box : FuncData
  d__law_box : DefAt K mg "_law_box" st__law_box ["_law_script", "_law_k"] f__law_box fd__law_box
  f__law_take : Addr
  fd__law_take : FuncData
  d__law_take : DefAt K mg "_law_take" st__law_take ["_law_box_here", "_law_bound"] f__law_take fd__law_take
  f__law_same : Addr
  fd__law_same : FuncData
  d__law_same : DefAt K mg "_law_same" st__law_same ["_law_found", "_law_due"] f__law_same fd__law_same
  f__law_of : Addr
  fd__law_of : FuncData
  d__law_of : DefAt K mg "_law_of" st__law_of ["_law_box_here", "_law_some"] f__law_of fd__law_of
  f__law_wide : Addr
  fd__law_wide : FuncData
  d__law_wide : DefAt K mg "_law_wide" st__law_wide ["_law_box_here", "_law_bound"] f__law_wide fd__law_wide
  f__law_line : Addr
  fd__law_line : FuncData
  d__law_line : DefAt K mg "_law_line" st__law_line ["_law_box_here", "_law_most"] f__law_line fd__law_line
  f__law_doors : Addr
  fd__law_doors : FuncData
  d__law_doors : DefAt K mg "_law_doors" st__law_doors ["_law_box_here", "_law_own"] f__law_doors fd__law_doors
  f__law_lies : Addr
  fd__law_lies : FuncData
  d__law_lies : DefAt K mg "_law_lies" st__law_lies ["_law_box_here", "_law_own"] f__law_lies fd__law_lies
  f__law_two : Addr
  fd__law_two : FuncData
  d__law_two : DefAt K mg "_law_two" st__law_two ["_law_box_here", "_law_own"] f__law_two fd__law_two
  f__law_great_two : Addr
  fd__law_great_two : FuncData
  d__law_great_two : DefAt K mg "_law_great_two" st__law_great_two ["_law_box_here"] f__law_great_two fd__law_great_two
  f__law_right : Addr
  fd__law_right : FuncData
  d__law_right : DefAt K mg "_law_right" st__law_right ["_law_box_here"] f__law_right fd__law_right
  f_law : Addr
  fd_law : FuncData
  d_law : DefAt K mg "law" st_law ["_law_script"] f_law fd_law
  z_abs : mg "abs" = none
  z_all : mg "all" = none
  z_bool : mg "bool" = none
  z_int : mg "int" = none
  z_isinstance : mg "isinstance" = none
  z_len : mg "len" = none
  z_list : mg "list" = none
  z_max : mg "max" = none
  z_min : mg "min" = none
  z_range : mg "range" = none
  z_str : mg "str" = none
  z_sum : mg "sum" = none
  z_tuple : mg "tuple" = none
  z_zip : mg "zip" = none
  g_RING : ∃ t, mg "RING" = some (.str "ring" t)
  g_FORTH : ∃ t, mg "FORTH" = some (.str "forth" t)
section
variable {P : Program} {w : World} {K : PySem.W.Frag} {mg : Str → Option Value} {base : Heap}
theorem ok_is_ring (T : Top K mg) : FnG P w K mg base (L2.CX P w) 1 T.f_is_ring T.fd_is_ring ["line"] (spP K mg 1 f_is_ring) :=
  fn_pure (k := 0) (m := c_is_ring) T.d_is_ring.F sc_is_ring (by decide) fun cdv A outer s H E hr c => ss_one (st_ret (s_eq c.hu (s_ixN 0 (pv 0) (s_int)) (s_gstr (by rfl) T.g_RING)))
theorem ok_bins (T : Top K mg) : FnG P w K mg base (L2.CX P w) 1 T.f_bins T.fd_bins ["line"] (spP K mg 1 f_bins) :=
  fn_pure (k := 0) (m := c_bins) T.d_bins.F sc_bins (by decide) fun cdv A outer s H E hr c => ss_one (st_ret (s_len (by rfl) T.z_len (s_ixN 0 (pv 0) (s_int))))
theorem ok_gates (T : Top K mg) : FnG P w K mg base (L2.CX P w) 2 T.f_gates T.fd_gates ["line"] (spP K mg 1 f_gates) :=
  fn_pure (k := 1) (m := c_gates) T.d_gates.F sc_gates (by decide) fun cdv A outer s H E hr c => ss_one (st_ret (s_if (t_truth (s_call c (ok_is_ring T) (hr.mono (by decide)) (by rfl) T.d_is_ring.m T.d_is_ring.F.kp T.d_is_ring.b (sa_cons (s_name 0 (pv 0)) (sa_nil)))) (s_call c (ok_bins T) (hr.mono (by decide)) (by rfl) T.d_bins.m T.d_bins.F.kp T.d_bins.b (sa_cons (s_name 0 (pv 0)) (sa_nil))) (s_add (s_call c (ok_bins T) (hr.mono (by decide)) (by rfl) T.d_bins.m T.d_bins.F.kp T.d_bins.b (sa_cons (s_name 0 (pv 0)) (sa_nil))) (s_int))))
theorem ok_bin_behind (T : Top K mg) : FnG P w K mg base (L2.CX P w) 2 T.f_bin_behind T.fd_bin_behind ["line", "gate"] (spP K mg 2 f_bin_behind) :=
  fn_pure (k := 1) (m := c_bin_behind) T.d_bin_behind.F sc_bin_behind (by decide) fun cdv A outer s H E hr c => ss_cons (st_if (t_truth (s_call c (ok_is_ring T) (hr.mono (by decide)) (by rfl) T.d_is_ring.m T.d_is_ring.F.kp T.d_is_ring.b (sa_cons (s_name 0 (pv 0)) (sa_nil)))) (ss_one (st_ret (s_mod (s_sub (s_name 1 (pv 1)) (s_int)) (s_call c (ok_bins T) (hr.mono (by decide)) (by rfl) T.d_bins.m T.d_bins.F.kp T.d_bins.b (sa_cons (s_name 0 (pv 0)) (sa_nil)))))) (ss_nil)) (ss_one (st_ret (s_if (t_gt (s_name 1 (pv 1)) (s_int)) (s_sub (s_name 1 (pv 1)) (s_int)) (s_non))))
theorem ok_bin_ahead (T : Top K mg) : FnG P w K mg base (L2.CX P w) 2 T.f_bin_ahead T.fd_bin_ahead ["line", "gate"] (spP K mg 2 f_bin_ahead) :=
  fn_pure (k := 1) (m := c_bin_ahead) T.d_bin_ahead.F sc_bin_ahead (by decide) fun cdv A outer s H E hr c => ss_one (st_ret (s_if ((w_or (t_truth (s_call c (ok_is_ring T) (hr.mono (by decide)) (by rfl) T.d_is_ring.m T.d_is_ring.F.kp T.d_is_ring.b (sa_cons (s_name 0 (pv 0)) (sa_nil)))) (w_or1 (t_lt (s_name 1 (pv 1)) (s_call c (ok_bins T) (hr.mono (by decide)) (by rfl) T.d_bins.m T.d_bins.F.kp T.d_bins.b (sa_cons (s_name 0 (pv 0)) (sa_nil)))))).t) (s_name 1 (pv 1)) (s_non)))
theorem ok_gate_out (T : Top K mg) : FnG P w K mg base (L2.CX P w) 2 T.f_gate_out T.fd_gate_out ["line", "place"] (spP K mg 2 f_gate_out) :=
  fn_pure (k := 1) (m := c_gate_out) T.d_gate_out.F sc_gate_out (by decide) fun cdv A outer s H E hr c => ss_one (st_ret (s_if (t_truth (s_call c (ok_is_ring T) (hr.mono (by decide)) (by rfl) T.d_is_ring.m T.d_is_ring.F.kp T.d_is_ring.b (sa_cons (s_name 0 (pv 0)) (sa_nil)))) (s_mod (s_add (s_name 1 (pv 1)) (s_int)) (s_call c (ok_bins T) (hr.mono (by decide)) (by rfl) T.d_bins.m T.d_bins.F.kp T.d_bins.b (sa_cons (s_name 0 (pv 0)) (sa_nil)))) (s_add (s_name 1 (pv 1)) (s_int))))
theorem ok_goes (T : Top K mg) : FnG P w K mg base (L2.CX P w) 3 T.f_goes T.fd_goes ["line", "widths", "standing", "way", "gate"] (spP K mg 5 f_goes) :=
  fn_pure (k := 2) (m := c_goes) T.d_goes.F sc_goes (by decide) fun cdv A outer s H E hr c => ss_cons (st_par (i := 5) (j := 6) c rfl rfl (by decide) rfl rfl (sa_cons (s_call c (ok_bin_behind T) (hr.mono (by decide)) (by rfl) T.d_bin_behind.m T.d_bin_behind.F.kp T.d_bin_behind.b (sa_cons (s_name 0 (pv 0)) (sa_cons (s_name 4 (pv 4)) (sa_nil)))) (sa_cons (s_call c (ok_bin_ahead T) (hr.mono (by decide)) (by rfl) T.d_bin_ahead.m T.d_bin_ahead.F.kp T.d_bin_ahead.b (sa_cons (s_name 0 (pv 0)) (sa_cons (s_name 4 (pv 4)) (sa_nil)))) (sa_nil))) (.inl rfl) (.inl rfl) (by rfl)) (ss_cons (st_asg (ws := [7, 8]) (s_if (t_eq (s_name 3 (pv 3)) (s_gstr (by rfl) T.g_FORTH) c.hu) (s_tup (sa_cons (s_name 5 (pv 5)) (sa_cons (s_name 6 (pv 6)) (sa_nil)))) (s_tup (sa_cons (s_name 6 (pv 6)) (sa_cons (s_name 5 (pv 5)) (sa_nil))))) (g_tup c (gs_cons (g_name (i := 7) c rfl (by first | exact .inl rfl | exact .inr rfl) (.inl rfl) (by decide)) (gs_cons (g_name (i := 8) c rfl (by first | exact .inl rfl | exact .inr rfl) (.inl rfl) (by decide)) (gs_nil))) (len_cons (len_cons (len_nil))))) (ss_cons (st_setF (i := 9) c rfl (by first | exact .inl rfl | exact .inr rfl) (f_if (t_is (s_ixN 1 (pv 1) (s_name 4 (pv 4))) (s_non)) (f_lst (sa_nil)) (f_lst (sa_cons (s_ixN 1 (pv 1) (s_name 4 (pv 4))) (sa_nil)))) (.inl rfl)) (ss_cons (st_if (t_isnot (s_name 7 (pv 7)) (s_non)) (ss_one (st_append 9 (pv 9) (s_ixN 2 (pv 2) (s_name 7 (pv 7))))) (ss_nil)) (ss_cons (st_if (t_isnot (s_name 8 (pv 8)) (s_non)) (ss_one (st_append 9 (pv 9) (s_sub (s_ix (s_ixN 0 (pv 0) (s_int)) (s_name 8 (pv 8))) (s_ixN 2 (pv 2) (s_name 8 (pv 8)))))) (ss_nil)) (ss_one (st_ret (s_minA c (by rfl) T.z_min (s_name 9 (pv 9)))))))))
theorem ok_moved (T : Top K mg) : FnG P w K mg base (L2.CX P w) 4 T.f_moved T.fd_moved ["line", "widths", "standing", "way"] (spP K mg 4 f_moved) :=
  fn_pure (k := 3) (m := c_moved) T.d_moved.F sc_moved (by decide) fun cdv A outer s H E hr c => ss_one (st_ret (s_tuple (by rfl) T.z_tuple ((f_comp c (i_range1 (by rfl) T.z_range (s_call c (ok_gates T) (hr.mono (by decide)) (by rfl) T.d_gates.m T.d_gates.F.kp T.d_gates.b (sa_cons (s_name 0 (pv 0)) (sa_nil)))) (blkOk_by (own := [("gate", 4)]) (N := n_moved) (sc := defScope st_moved) (by decide +kernel)) (fun _ _ _ _ _ => g_name (i := 4) (c.blk _ _ _ _ _) rfl (by first | exact .inl rfl | exact .inr rfl) (.inl rfl) (by decide)) (ts_nil) (fun _ _ _ _ _ => s_call (c.blk _ _ _ _ _) (ok_goes T) (hr.mono (by decide)) (by rfl) T.d_goes.m T.d_goes.F.kp T.d_goes.b (sa_cons (s_name 0 (pv 0)) (sa_cons (s_name 1 (pv 1)) (sa_cons (s_name 2 (pv 2)) (sa_cons (s_name 3 (pv 3)) (sa_cons (s_name 4 (pv 4)) (sa_nil)))))))).snd)))
theorem ok_behind_counts (T : Top K mg) : FnG P w K mg base (L2.CX P w) 3 T.f_behind_counts T.fd_behind_counts ["line", "standing", "counts"] (spP K mg 3 f_behind_counts) :=
  fn_pure (k := 2) (m := c_behind_counts) T.d_behind_counts.F sc_behind_counts (by decide) fun cdv A outer s H E hr c => ss_one (st_ret (s_tuple (by rfl) T.z_tuple ((f_comp c (i_range1 (by rfl) T.z_range (s_call c (ok_bins T) (hr.mono (by decide)) (by rfl) T.d_bins.m T.d_bins.F.kp T.d_bins.b (sa_cons (s_name 0 (pv 0)) (sa_nil)))) (blkOk_by (own := [("place", 3)]) (N := n_behind_counts) (sc := defScope st_behind_counts) (by decide +kernel)) (fun _ _ _ _ _ => g_name (i := 3) (c.blk _ _ _ _ _) rfl (by first | exact .inl rfl | exact .inr rfl) (.inl rfl) (by decide)) (ts_nil) (fun _ _ _ _ _ => s_sub (s_add (s_ixN 1 (pv 1) (s_name 3 (pv 3))) (s_ixN 2 (pv 2) (s_name 3 (pv 3)))) (s_ixN 2 (pv 2) (s_call (c.blk _ _ _ _ _) (ok_gate_out T) (hr.mono (by decide)) (by rfl) T.d_gate_out.m T.d_gate_out.F.kp T.d_gate_out.b (sa_cons (s_name 0 (pv 0)) (sa_cons (s_name 3 (pv 3)) (sa_nil))))))).snd)))
theorem ok_signed (T : Top K mg) : FnG P w K mg base (L2.CX P w) 1 T.f_signed T.fd_signed ["went", "way"] (spP K mg 2 f_signed) :=
  fn_pure (k := 0) (m := c_signed) T.d_signed.F sc_signed (by decide) fun cdv A outer s H E hr c => ss_one (st_ret (s_if (t_eq (s_name 1 (pv 1)) (s_gstr (by rfl) T.g_FORTH) c.hu) (s_name 0 (pv 0)) (s_tuple (by rfl) T.z_tuple ((f_comp c (i_seq (s_name 0 (pv 0))) (blkOk_by (own := [("many", 2)]) (N := n_signed) (sc := defScope st_signed) (by decide +kernel)) (fun _ _ _ _ _ => g_name (i := 2) (c.blk _ _ _ _ _) rfl (by first | exact .inl rfl | exact .inr rfl) (.inl rfl) (by decide)) (ts_nil) (fun _ _ _ _ _ => s_neg (s_name 2 (pv 2)))).snd))))
theorem ok_beat (T : Top K mg) : FnG P w K mg base (L2.CX P w) 5 T.f_beat T.fd_beat ["line", "widths", "standing", "way"] (spP K mg 4 f_beat) :=
  fn_pure (k := 4) (m := c_beat) T.d_beat.F sc_beat (by decide) fun cdv A outer s H E hr c => ss_one (st_ret (s_call c (ok_behind_counts T) (hr.mono (by decide)) (by rfl) T.d_behind_counts.m T.d_behind_counts.F.kp T.d_behind_counts.b (sa_cons (s_name 0 (pv 0)) (sa_cons (s_name 2 (pv 2)) (sa_cons (s_call c (ok_signed T) (hr.mono (by decide)) (by rfl) T.d_signed.m T.d_signed.F.kp T.d_signed.b (sa_cons (s_call c (ok_moved T) (hr.mono (by decide)) (by rfl) T.d_moved.m T.d_moved.F.kp T.d_moved.b (sa_cons (s_name 0 (pv 0)) (sa_cons (s_name 1 (pv 1)) (sa_cons (s_name 2 (pv 2)) (sa_cons (s_name 3 (pv 3)) (sa_nil)))))) (sa_cons (s_name 3 (pv 3)) (sa_nil)))) (sa_nil))))))
theorem ok_between (T : Top K mg) : FnG P w K mg base (L2.CX P w) 3 T.f_between T.fd_between ["line", "one", "other"] (spP K mg 3 f_between) :=
  fn_pure (k := 2) (m := c_between) T.d_between.F sc_between (by decide) fun cdv A outer s H E hr c => ss_cons (st_if ((w_and (t_truth (s_call c (ok_is_ring T) (hr.mono (by decide)) (by rfl) T.d_is_ring.m T.d_is_ring.F.kp T.d_is_ring.b (sa_cons (s_name 0 (pv 0)) (sa_nil)))) (w_and1 (t_ne (s_sum c.calm (by rfl) T.z_sum (s_name 1 (pv 1))) (s_sum c.calm (by rfl) T.z_sum (s_name 2 (pv 2))) c.hu))).t) (ss_one (st_never)) (ss_nil)) (ss_cons (st_setF (i := 3) c rfl (by first | exact .inl rfl | exact .inr rfl) (f_lst (sa_cons (s_int) (sa_nil))) (.inl rfl)) (ss_cons (st_for (ws := [4, 5]) c (i_zipS2 c (by rfl) T.z_zip (s_name 1 (pv 1)) (s_name 2 (pv 2))) (g_tup c (gs_cons (g_name (i := 4) c rfl (by first | exact .inl rfl | exact .inr rfl) (.inl rfl) (by decide)) (gs_cons (g_name (i := 5) c rfl (by first | exact .inl rfl | exact .inr rfl) (.inl rfl) (by decide)) (gs_nil))) (len_cons (len_cons (len_nil)))) (ss_one (st_append 3 (pv 3) (s_sub (s_add (s_ixN 3 (pv 3) (s_neg (s_int))) (s_name 4 (pv 4))) (s_name 5 (pv 5)))))) (ss_one (st_ret (s_tuple (by rfl) T.z_tuple (s_cut (s_name 3 (pv 3)) so_none (so_some (s_call c (ok_gates T) (hr.mono (by decide)) (by rfl) T.d_gates.m T.d_gates.F.kp T.d_gates.b (sa_cons (s_name 0 (pv 0)) (sa_nil))))))))))
theorem ok_apart (T : Top K mg) : FnG P w K mg base (L2.CX P w) 4 T.f_apart T.fd_apart ["line", "one", "other"] (spP K mg 3 f_apart) :=
  fn_pure (k := 3) (m := c_apart) T.d_apart.F sc_apart (by decide) fun cdv A outer s H E hr c => ss_cons (st_set (i := 3) c rfl (by first | exact .inl rfl | exact .inr rfl) (s_call c (ok_between T) (hr.mono (by decide)) (by rfl) T.d_between.m T.d_between.F.kp T.d_between.b (sa_cons (s_name 0 (pv 0)) (sa_cons (s_name 1 (pv 1)) (sa_cons (s_name 2 (pv 2)) (sa_nil))))) (.inl rfl)) (ss_one (st_ret (s_sub (s_maxA c (by rfl) T.z_max (s_name 3 (pv 3))) (s_minA c (by rfl) T.z_min (s_name 3 (pv 3))))))
theorem ok_summed (T : Top K mg) : FnG P w K mg base (L2.CX P w) 1 T.f_summed T.fd_summed ["one", "other"] (spP K mg 2 f_summed) :=
  fn_pure (k := 0) (m := c_summed) T.d_summed.F sc_summed (by decide) fun cdv A outer s H E hr c => ss_one (st_ret (s_tuple (by rfl) T.z_tuple ((f_comp c (i_zipS2 c (by rfl) T.z_zip (s_name 0 (pv 0)) (s_name 1 (pv 1))) (blkOk_by (own := [("mine", 2), ("its", 3)]) (N := n_summed) (sc := defScope st_summed) (by decide +kernel)) (fun _ _ _ _ _ => g_tup (c.blk _ _ _ _ _) (gs_cons (g_name (i := 2) (c.blk _ _ _ _ _) rfl (by first | exact .inl rfl | exact .inr rfl) (.inl rfl) (by decide)) (gs_cons (g_name (i := 3) (c.blk _ _ _ _ _) rfl (by first | exact .inl rfl | exact .inr rfl) (.inl rfl) (by decide)) (gs_nil))) (len_cons (len_cons (len_nil)))) (ts_nil) (fun _ _ _ _ _ => s_add (s_name 2 (pv 2)) (s_name 3 (pv 3)))).snd)))
theorem ok_led (T : Top K mg) : FnG P w K mg base (L2.CX P w) 6 T.f_led T.fd_led ["line", "standing", "run"] (spP K mg 3 f_led) :=
  fn_pure (k := 5) (m := c_led) T.d_led.F sc_led (by decide) fun cdv A outer s H E hr c => ss_cons (st_par (i := 3) (j := 4) c rfl rfl (by decide) rfl rfl (sa_cons (s_tuple (by rfl) T.z_tuple (s_name 1 (pv 1))) (sa_cons (s_mul (s_tup (sa_cons (s_int) (sa_nil))) (s_call c (ok_gates T) (hr.mono (by decide)) (by rfl) T.d_gates.m T.d_gates.F.kp T.d_gates.b (sa_cons (s_name 0 (pv 0)) (sa_nil)))) (sa_nil))) (.inl rfl) (.inl rfl) (by rfl)) (ss_cons (st_for (ws := [5, 6]) c (i_seq (s_name 2 (pv 2))) (g_tup c (gs_cons (g_name (i := 5) c rfl (by first | exact .inl rfl | exact .inr rfl) (.inl rfl) (by decide)) (gs_cons (g_name (i := 6) c rfl (by first | exact .inl rfl | exact .inr rfl) (.inl rfl) (by decide)) (gs_nil))) (len_cons (len_cons (len_nil)))) (ss_cons (st_set (i := 4) c rfl (by first | exact .inl rfl | exact .inr rfl) (s_call c (ok_summed T) (hr.mono (by decide)) (by rfl) T.d_summed.m T.d_summed.F.kp T.d_summed.b (sa_cons (s_name 4 (pv 4)) (sa_cons (s_call c (ok_signed T) (hr.mono (by decide)) (by rfl) T.d_signed.m T.d_signed.F.kp T.d_signed.b (sa_cons (s_call c (ok_moved T) (hr.mono (by decide)) (by rfl) T.d_moved.m T.d_moved.F.kp T.d_moved.b (sa_cons (s_name 0 (pv 0)) (sa_cons (s_name 6 (pv 6)) (sa_cons (s_name 3 (pv 3)) (sa_cons (s_name 5 (pv 5)) (sa_nil)))))) (sa_cons (s_name 5 (pv 5)) (sa_nil)))) (sa_nil)))) (.inl rfl)) (ss_one (st_set (i := 3) c rfl (by first | exact .inl rfl | exact .inr rfl) (s_call c (ok_beat T) (hr.mono (by decide)) (by rfl) T.d_beat.m T.d_beat.F.kp T.d_beat.b (sa_cons (s_name 0 (pv 0)) (sa_cons (s_name 6 (pv 6)) (sa_cons (s_name 3 (pv 3)) (sa_cons (s_name 5 (pv 5)) (sa_nil)))))) (.inl rfl))))) (ss_one (st_ret (s_tup (sa_cons (s_name 3 (pv 3)) (sa_cons (s_name 4 (pv 4)) (sa_nil)))))))
theorem ok__law_box (T : Top K mg) : FnG P w K mg base (L2.CX P w) 1 T.f__law_box T.fd__law_box ["_law_script", "_law_k"] (spF K mg 2 f__law_box) :=
  fn_fresh (k := 0) (m := c__law_box) T.d__law_box.F sc__law_box (by decide) fun cdv A outer s H E hr c => ss_cons (st_set (i := 2) c rfl (by first | exact .inl rfl | exact .inr rfl) (s_int) (.inl rfl)) (ss_cons (st_if (t_lt (s_name 1 (pv 1)) (s_lenN 0 (by rfl) T.z_len (pv 0))) (ss_one (st_set (i := 2) c rfl (by first | exact .inl rfl | exact .inr rfl) (s_ixN 0 (pv 0) (s_name 1 (pv 1))) (.inl rfl))) (ss_nil)) (ss_one (st_retF (f_lst (sa_cons (s_mul (s_abs (by rfl) T.z_abs (s_name 2 (pv 2))) (s_int' (by rfl) T.z_int (s_ge (s_abs (by rfl) T.z_abs (s_name 2 (pv 2))) (s_pow (s_int) (s_int))))) (sa_cons (s_add (s_add (s_mod (s_name 2 (pv 2)) (s_int)) (s_mul (s_int) (s_name 1 (pv 1)))) (s_int)) (sa_cons (s_int) (sa_nil))))))))
theorem ok__law_take (T : Top K mg) : FnG P w K mg base (L2.CX P w) 1 T.f__law_take T.fd__law_take ["_law_box_here", "_law_bound"] (spB K mg 1 f__law_take) :=
  fn_box (k := 0) (m0 := c__law_take) rfl T.d__law_take.F sc__law_take (by decide) fun b cdv A outer s H E hr c => ss_cons (st_if (t_gt (s_ixN 0 (pv 0) (s_int)) (s_int)) (ss_cons (st_set (i := 2) c rfl (by first | exact .inl rfl | exact .inr rfl) (s_mod (s_ixN 0 (pv 0) (s_int)) (s_name 1 (pv 1))) (.inr (by decide))) (ss_cons (st_setIx 0 (pv 0) (s_int) (s_div (s_ixN 0 (pv 0) (s_int)) (s_name 1 (pv 1)))) (ss_one (st_ret (s_name 2 (pv 2)))))) (ss_nil)) (ss_cons (st_setIx 0 (pv 0) (s_int) (s_add (s_ixN 0 (pv 0) (s_int)) (s_int))) (ss_cons (st_set (i := 3) c rfl (by first | exact .inl rfl | exact .inr rfl) (s_mod (s_pow (s_add (s_ixN 0 (pv 0) (s_int)) (s_mul (s_int) (s_ixN 0 (pv 0) (s_int)))) (s_int)) (s_int)) (.inr (by decide))) (ss_one (st_ret (s_mod (s_div (s_mod (s_add (s_mul (s_name 3 (pv 3)) (s_add (s_mod (s_name 3 (pv 3)) (s_int)) (s_int))) (s_mul (s_ixN 0 (pv 0) (s_int)) (s_int))) (s_int)) (s_int)) (s_name 1 (pv 1)))))))
theorem ok__law_same (T : Top K mg) : ∀ d : Nat, FnG P w K mg base (L2.CX P w) (0 + d) T.f__law_same T.fd__law_same ["_law_found", "_law_due"] (spP K mg 2 (f__law_same_k65 d))
  | 0 => fn_bad rfl
  | d + 1 => by
    have G := ok__law_same T d
    exact fn_pure (k := 0 + d) T.d__law_same.F sc__law_same (by decide) fun cdv A outer s H E hr c => ss_cons (st_if (t_truth (s_isi (by rfl) T.z_isinstance (s_name 1 (pv 1)) (s_tup (sa_cons (s_ty (by rfl) T.z_list (by decide +kernel)) (sa_cons (s_ty (by rfl) T.z_tuple (by decide +kernel)) (sa_nil)))))) (ss_cons (st_if ((w_or (t_ne (s_isi (by rfl) T.z_isinstance (s_name 0 (pv 0)) (s_ty (by rfl) T.z_list (by decide +kernel))) (s_isi (by rfl) T.z_isinstance (s_name 1 (pv 1)) (s_ty (by rfl) T.z_list (by decide +kernel))) c.hu) (w_or1 (t_ne (s_isi (by rfl) T.z_isinstance (s_name 0 (pv 0)) (s_ty (by rfl) T.z_tuple (by decide +kernel))) (s_isi (by rfl) T.z_isinstance (s_name 1 (pv 1)) (s_ty (by rfl) T.z_tuple (by decide +kernel))) c.hu))).t) (ss_one (st_ret (s_bl))) (ss_nil)) (ss_cons (st_if (t_ne (s_lenN 0 (by rfl) T.z_len (pv 0)) (s_lenN 1 (by rfl) T.z_len (pv 1)) c.hu) (ss_one (st_ret (s_bl))) (ss_nil)) (ss_one (st_ret (s_all c.calm (by rfl) T.z_all ((f_comp c (i_zipB (by rfl) T.z_zip (s_name 0 (pv 0)) (s_name 1 (pv 1))) (blkOk_by (own := [("_law_one", 2), ("_law_two_here", 3)]) (N := n__law_same_k65) (sc := defScope st__law_same) (by decide +kernel)) (fun _ _ _ _ _ => g_tup (c.blk _ _ _ _ _) (gs_cons (g_name (i := 2) (c.blk _ _ _ _ _) rfl (by first | exact .inl rfl | exact .inr rfl) (.inl rfl) (by decide)) (gs_cons (g_name (i := 3) (c.blk _ _ _ _ _) rfl (by first | exact .inl rfl | exact .inr rfl) (.inl rfl) (by decide)) (gs_nil))) (len_cons (len_cons (len_nil)))) (ts_nil) (fun _ _ _ _ _ => s_call (c.blk _ _ _ _ _) G hr (by rfl) T.d__law_same.m T.d__law_same.F.kp T.d__law_same.b (sa_cons (s_name 2 (pv 2)) (sa_cons (s_name 3 (pv 3)) (sa_nil))))).snd)))))) (ss_nil)) (ss_cons (st_if ((w_or (t_is (s_name 1 (pv 1)) (s_non)) (w_or1 (t_truth (s_isi (by rfl) T.z_isinstance (s_name 1 (pv 1)) (s_ty (by rfl) T.z_str (by decide +kernel)))))).t) (ss_one (st_ret (s_and (s_eq c.hu (s_name 0 (pv 0)) (s_name 1 (pv 1))) (s_one (s_eq c.hu (s_isi (by rfl) T.z_isinstance (s_name 0 (pv 0)) (s_ty (by rfl) T.z_str (by decide +kernel))) (s_isi (by rfl) T.z_isinstance (s_name 1 (pv 1)) (s_ty (by rfl) T.z_str (by decide +kernel)))))))) (ss_nil)) (ss_one (st_ret (s_and (s_isi (by rfl) T.z_isinstance (s_name 0 (pv 0)) (s_ty (by rfl) T.z_int (by decide +kernel))) (s_and (s_eq c.hu (s_isi (by rfl) T.z_isinstance (s_name 0 (pv 0)) (s_ty (by rfl) T.z_bool (by decide +kernel))) (s_isi (by rfl) T.z_isinstance (s_name 1 (pv 1)) (s_ty (by rfl) T.z_bool (by decide +kernel)))) (s_one (s_eq c.hu (s_name 0 (pv 0)) (s_name 1 (pv 1)))))))))
theorem ok__law_of (T : Top K mg) : FnG P w K mg base (L2.CX P w) 2 T.f__law_of T.fd__law_of ["_law_box_here", "_law_some"] (spB K mg 1 f__law_of) :=
  fn_box (k := 1) (m0 := c__law_of) rfl T.d__law_of.F sc__law_of (by decide) fun b cdv A outer s H E hr c => ss_one (st_ret (s_ixN 1 (pv 1) (s_callBx 0 c (ok__law_take T) (hr.mono (by decide)) (by rfl) T.d__law_take.m T.d__law_take.F.kp T.d__law_take.b (pv 0) (sa_cons (s_lenN 1 (by rfl) T.z_len (pv 1)) (sa_nil)))))
theorem ok__law_wide (T : Top K mg) : FnG P w K mg base (L2.CX P w) 2 T.f__law_wide T.fd__law_wide ["_law_box_here", "_law_bound"] (spB K mg 1 f__law_wide) :=
  fn_box (k := 1) (m0 := c__law_wide) rfl T.d__law_wide.F sc__law_wide (by decide) fun b cdv A outer s H E hr c => ss_one (st_ret (s_mod (s_add (s_mul (s_callBx 0 c (ok__law_take T) (hr.mono (by decide)) (by rfl) T.d__law_take.m T.d__law_take.F.kp T.d__law_take.b (pv 0) (sa_cons (s_pow (s_int) (s_int)) (sa_nil))) (s_pow (s_int) (s_int))) (s_callBx 0 c (ok__law_take T) (hr.mono (by decide)) (by rfl) T.d__law_take.m T.d__law_take.F.kp T.d__law_take.b (pv 0) (sa_cons (s_pow (s_int) (s_int)) (sa_nil)))) (s_name 1 (pv 1))))
theorem ok__law_line (T : Top K mg) : FnG P w K mg base (L2.CX P w) 2 T.f__law_line T.fd__law_line ["_law_box_here", "_law_most"] (spB K mg 1 f__law_line) :=
  fn_box (k := 1) (m0 := c__law_line) rfl T.d__law_line.F sc__law_line (by decide) fun b cdv A outer s H E hr c => ss_cons (st_set (i := 2) c rfl (by first | exact .inl rfl | exact .inr rfl) (s_add (s_int) (s_callBx 0 c (ok__law_take T) (hr.mono (by decide)) (by rfl) T.d__law_take.m T.d__law_take.F.kp T.d__law_take.b (pv 0) (sa_cons (s_name 1 (pv 1)) (sa_nil)))) (.inr (by decide))) (ss_cons (st_set (i := 3) c rfl (by first | exact .inl rfl | exact .inr rfl) (s_tuple (by rfl) T.z_tuple ((f_comp c (i_range1 (by rfl) T.z_range (s_name 2 (pv 2))) (blkOk_by (own := [("_law_turn", 4)]) (N := n__law_line) (sc := defScope st__law_line) (by decide +kernel)) (fun _ _ _ _ _ => g_name (i := 4) (c.blk _ _ _ _ _) rfl (by first | exact .inl rfl | exact .inr rfl) (.inl rfl) (by decide)) (ts_nil) (fun _ _ _ _ _ => s_ix (s_lst (sa_cons (s_int) (sa_cons (s_int) (sa_cons (s_int) (sa_cons (s_add (s_int) (s_callBx 0 (c.blk _ _ _ _ _) (ok__law_take T) (hr.mono (by decide)) (by rfl) T.d__law_take.m T.d__law_take.F.kp T.d__law_take.b (pv 0) (sa_cons (s_int) (sa_nil)))) (sa_nil)))))) (s_callBx 0 (c.blk _ _ _ _ _) (ok__law_take T) (hr.mono (by decide)) (by rfl) T.d__law_take.m T.d__law_take.F.kp T.d__law_take.b (pv 0) (sa_cons (s_int) (sa_nil))))).snd)) (.inr (by decide))) (ss_one (st_ret (s_tup (sa_cons (s_if ((w_and (t_gt (s_name 2 (pv 2)) (s_int)) (w_and1 (t_eq (s_callBx 0 c (ok__law_take T) (hr.mono (by decide)) (by rfl) T.d__law_take.m T.d__law_take.F.kp T.d__law_take.b (pv 0) (sa_cons (s_int) (sa_nil))) (s_int) c.hu))).t) (s_str) (s_str)) (sa_cons (s_name 3 (pv 3)) (sa_nil)))))))
theorem ok__law_doors (T : Top K mg) : FnG P w K mg base (L2.CX P w) 2 T.f__law_doors T.fd__law_doors ["_law_box_here", "_law_own"] (spB K mg 1 f__law_doors) :=
  fn_box (k := 1) (m0 := c__law_doors) rfl T.d__law_doors.F sc__law_doors (by decide) fun b cdv A outer s H E hr c => ss_cons (st_set (i := 2) c rfl (by first | exact .inl rfl | exact .inr rfl) (s_add (s_len (by rfl) T.z_len (s_ixN 1 (pv 1) (s_int))) (s_int' (by rfl) T.z_int (s_eq c.hu (s_ixN 1 (pv 1) (s_int)) (s_str)))) (.inr (by decide))) (ss_one (st_ret (s_tuple (by rfl) T.z_tuple ((f_comp c (i_range1 (by rfl) T.z_range (s_name 2 (pv 2))) (blkOk_by (own := [("_law_turn", 3)]) (N := n__law_doors) (sc := defScope st__law_doors) (by decide +kernel)) (fun _ _ _ _ _ => g_name (i := 3) (c.blk _ _ _ _ _) rfl (by first | exact .inl rfl | exact .inr rfl) (.inl rfl) (by decide)) (ts_nil) (fun _ _ _ _ _ => s_ix (s_lst (sa_cons (s_non) (sa_cons (s_int) (sa_cons (s_add (s_int) (s_callBx 0 (c.blk _ _ _ _ _) (ok__law_take T) (hr.mono (by decide)) (by rfl) T.d__law_take.m T.d__law_take.F.kp T.d__law_take.b (pv 0) (sa_cons (s_int) (sa_nil)))) (sa_cons (s_non) (sa_cons (s_callBx 0 (c.blk _ _ _ _ _) (ok__law_take T) (hr.mono (by decide)) (by rfl) T.d__law_take.m T.d__law_take.F.kp T.d__law_take.b (pv 0) (sa_cons (s_int) (sa_nil))) (sa_nil))))))) (s_callBx 0 (c.blk _ _ _ _ _) (ok__law_take T) (hr.mono (by decide)) (by rfl) T.d__law_take.m T.d__law_take.F.kp T.d__law_take.b (pv 0) (sa_cons (s_int) (sa_nil))))).snd))))
theorem ok__law_lies (T : Top K mg) : FnG P w K mg base (L2.CX P w) 2 T.f__law_lies T.fd__law_lies ["_law_box_here", "_law_own"] (spB K mg 1 f__law_lies) :=
  fn_box (k := 1) (m0 := c__law_lies) rfl T.d__law_lies.F sc__law_lies (by decide) fun b cdv A outer s H E hr c => ss_cons (st_set (i := 2) c rfl (by first | exact .inl rfl | exact .inr rfl) (s_callBx 0 c (ok__law_take T) (hr.mono (by decide)) (by rfl) T.d__law_take.m T.d__law_take.F.kp T.d__law_take.b (pv 0) (sa_cons (s_int) (sa_nil))) (.inr (by decide))) (ss_cons (st_if (t_lt (s_name 2 (pv 2)) (s_int)) (ss_one (st_ret (s_tuple (by rfl) T.z_tuple ((f_comp c (i_seq (s_ixN 1 (pv 1) (s_int))) (blkOk_by (own := [("_law_home", 3)]) (N := n__law_lies) (sc := defScope st__law_lies) (by decide +kernel)) (fun _ _ _ _ _ => g_name (i := 3) (c.blk _ _ _ _ _) rfl (by first | exact .inl rfl | exact .inr rfl) (.inl rfl) (by decide)) (ts_nil) (fun _ _ _ _ _ => s_mul (s_name 3 (pv 3)) (s_name 2 (pv 2)))).snd)))) (ss_nil)) (ss_one (st_ret (s_tuple (by rfl) T.z_tuple ((f_comp c (i_seq (s_ixN 1 (pv 1) (s_int))) (blkOk_by (own := [("_law_home", 3)]) (N := n__law_lies) (sc := defScope st__law_lies) (by decide +kernel)) (fun _ _ _ _ _ => g_name (i := 3) (c.blk _ _ _ _ _) rfl (by first | exact .inl rfl | exact .inr rfl) (.inl rfl) (by decide)) (ts_nil) (fun _ _ _ _ _ => s_callBx 0 (c.blk _ _ _ _ _) (ok__law_take T) (hr.mono (by decide)) (by rfl) T.d__law_take.m T.d__law_take.F.kp T.d__law_take.b (pv 0) (sa_cons (s_add (s_name 3 (pv 3)) (s_int)) (sa_nil)))).snd)))))
theorem ok__law_two (T : Top K mg) : FnG P w K mg base (L2.CX P w) 3 T.f__law_two T.fd__law_two ["_law_box_here", "_law_own"] (spB K mg 1 f__law_two) :=
  fn_box (k := 2) (m0 := c__law_two) rfl T.d__law_two.F sc__law_two (by decide) fun b cdv A outer s H E hr c => ss_cons (st_pg2 (i := 2) (j := 3) c rfl rfl (by decide) rfl rfl (cs_cons (c := .v (mCallBx f__law_lies 0 [mName 1])) (s_callBx 0 c (ok__law_lies T) (hr.mono (by decide)) (by rfl) T.d__law_lies.m T.d__law_lies.F.kp T.d__law_lies.b (pv 0) (sa_cons (s_name 1 (pv 1)) (sa_nil))) (cs_cons (c := .f (mCallF pvList [mCallBx f__law_lies 0 [mName 1]])) (f_list (by rfl) T.z_list (s_callBx 0 c (ok__law_lies T) (hr.mono (by decide)) (by rfl) T.d__law_lies.m T.d__law_lies.F.kp T.d__law_lies.b (pv 0) (sa_cons (s_name 1 (pv 1)) (sa_nil)))) (cs_nil))) (fun k hk => .inr (by simp at hk; omega)) (by rfl)) (ss_cons (st_if (t_eq (s_ixN 1 (pv 1) (s_int)) (s_str) c.hu) (ss_one (st_for (ws := [4]) c (i_range1 (by rfl) T.z_range (s_lenN 3 (by rfl) T.z_len (pv 3))) (g_name (i := 4) c rfl (by first | exact .inl rfl | exact .inr rfl) (.inr (by decide)) (by decide)) (ss_cons (st_set (i := 5) c rfl (by first | exact .inl rfl | exact .inr rfl) (s_sub (s_sum c.calm (by rfl) T.z_sum (s_name 2 (pv 2))) (s_sumN 3 c.calm (by rfl) T.z_sum (pv 3))) (.inr (by decide))) (ss_one (st_setIx 3 (pv 3) (s_name 4 (pv 4)) (s_max2 c.calm (by rfl) T.z_max (s_int) (s_min2 c.calm (by rfl) T.z_min (s_ix (s_ixN 1 (pv 1) (s_int)) (s_name 4 (pv 4))) (s_add (s_ixN 3 (pv 3) (s_name 4 (pv 4))) (s_name 5 (pv 5)))))))))) (ss_nil)) (ss_one (st_ret (s_tup (sa_cons (s_name 2 (pv 2)) (sa_cons (s_tuple (by rfl) T.z_tuple (s_name 3 (pv 3))) (sa_nil)))))))
theorem ok__law_great_two (T : Top K mg) : FnG P w K mg base (L2.CX P w) 3 T.f__law_great_two T.fd__law_great_two ["_law_box_here"] (spB K mg 0 f__law_great_two) :=
  fn_box (k := 2) (m0 := c__law_great_two) rfl T.d__law_great_two.F sc__law_great_two (by decide) fun b cdv A outer s H E hr c => ss_cons (st_set (i := 1) c rfl (by first | exact .inl rfl | exact .inr rfl) (s_add (s_int) (s_callBx 0 c (ok__law_take T) (hr.mono (by decide)) (by rfl) T.d__law_take.m T.d__law_take.F.kp T.d__law_take.b (pv 0) (sa_cons (s_int) (sa_nil)))) (.inr (by decide))) (ss_cons (st_set (i := 2) c rfl (by first | exact .inl rfl | exact .inr rfl) (s_tuple (by rfl) T.z_tuple ((f_comp c (i_range1 (by rfl) T.z_range (s_name 1 (pv 1))) (blkOk_by (own := [("_law_turn", 8)]) (N := n__law_great_two) (sc := defScope st__law_great_two) (by decide +kernel)) (fun _ _ _ _ _ => g_name (i := 8) (c.blk _ _ _ _ _) rfl (by first | exact .inl rfl | exact .inr rfl) (.inl rfl) (by decide)) (ts_nil) (fun _ _ _ _ _ => s_add (s_int) (s_callBx 0 (c.blk _ _ _ _ _) (ok__law_wide T) (hr.mono (by decide)) (by rfl) T.d__law_wide.m T.d__law_wide.F.kp T.d__law_wide.b (pv 0) (sa_cons (s_pow (s_int) (s_int)) (sa_nil))))).snd)) (.inr (by decide))) (ss_cons (st_set (i := 3) c rfl (by first | exact .inl rfl | exact .inr rfl) (s_tup (sa_cons (s_ix (s_lst (sa_cons (s_str) (sa_cons (s_str) (sa_nil)))) (s_callBx 0 c (ok__law_take T) (hr.mono (by decide)) (by rfl) T.d__law_take.m T.d__law_take.F.kp T.d__law_take.b (pv 0) (sa_cons (s_int) (sa_nil)))) (sa_cons (s_name 2 (pv 2)) (sa_nil)))) (.inr (by decide))) (ss_cons (st_pg2 (i := 4) (j := 5) c rfl rfl (by decide) rfl rfl (cs_cons (c := .v (mCallB (on1 pvTuple) [mFrz (mComp (mSeqI (mName 2)) (mgName 9) (mYes) (mCallBx f__law_wide 0 [m2 pvAdd (mName 9) (mC (.int 1))]) [9])])) (s_tuple (by rfl) T.z_tuple ((f_comp c (i_seq (s_name 2 (pv 2))) (blkOk_by (own := [("_law_home", 9)]) (N := n__law_great_two) (sc := defScope st__law_great_two) (by decide +kernel)) (fun _ _ _ _ _ => g_name (i := 9) (c.blk _ _ _ _ _) rfl (by first | exact .inl rfl | exact .inr rfl) (.inl rfl) (by decide)) (ts_nil) (fun _ _ _ _ _ => s_callBx 0 (c.blk _ _ _ _ _) (ok__law_wide T) (hr.mono (by decide)) (by rfl) T.d__law_wide.m T.d__law_wide.F.kp T.d__law_wide.b (pv 0) (sa_cons (s_add (s_name 9 (pv 9)) (s_int)) (sa_nil)))).snd)) (cs_cons (c := .f (mComp (mSeqI (mName 2)) (mgName 9) (mYes) (mCallBx f__law_wide 0 [m2 pvAdd (mName 9) (mC (.int 1))]) [9])) (f_comp c (i_seq (s_name 2 (pv 2))) (blkOk_by (own := [("_law_home", 9)]) (N := n__law_great_two) (sc := defScope st__law_great_two) (by decide +kernel)) (fun _ _ _ _ _ => g_name (i := 9) (c.blk _ _ _ _ _) rfl (by first | exact .inl rfl | exact .inr rfl) (.inl rfl) (by decide)) (ts_nil) (fun _ _ _ _ _ => s_callBx 0 (c.blk _ _ _ _ _) (ok__law_wide T) (hr.mono (by decide)) (by rfl) T.d__law_wide.m T.d__law_wide.F.kp T.d__law_wide.b (pv 0) (sa_cons (s_add (s_name 9 (pv 9)) (s_int)) (sa_nil)))) (cs_nil))) (fun k hk => .inr (by simp at hk; omega)) (by rfl)) (ss_cons (st_for (ws := [6]) c (i_range1 (by rfl) T.z_range (s_name 1 (pv 1))) (g_name (i := 6) c rfl (by first | exact .inl rfl | exact .inr rfl) (.inr (by decide)) (by decide)) (ss_cons (st_set (i := 7) c rfl (by first | exact .inl rfl | exact .inr rfl) (s_mul (s_sub (s_sum c.calm (by rfl) T.z_sum (s_name 4 (pv 4))) (s_sumN 5 c.calm (by rfl) T.z_sum (pv 5))) (s_int' (by rfl) T.z_int (s_eq c.hu (s_ixN 3 (pv 3) (s_int)) (s_str)))) (.inr (by decide))) (ss_one (st_setIx 5 (pv 5) (s_name 6 (pv 6)) (s_max2 c.calm (by rfl) T.z_max (s_int) (s_min2 c.calm (by rfl) T.z_min (s_ixN 2 (pv 2) (s_name 6 (pv 6))) (s_add (s_ixN 5 (pv 5) (s_name 6 (pv 6))) (s_name 7 (pv 7))))))))) (ss_one (st_ret (s_tup (sa_cons (s_name 3 (pv 3)) (sa_cons (s_name 4 (pv 4)) (sa_cons (s_tuple (by rfl) T.z_tuple (s_name 5 (pv 5))) (sa_nil)))))))))))
theorem ok__law_right (T : Top K mg) : FnG P w K mg base (L2.CX P w) 7 T.f__law_right T.fd__law_right ["_law_box_here"] (spB K mg 0 f__law_right) :=
  fn_box (k := 6) (m0 := c__law_right) rfl T.d__law_right.F sc__law_right (by decide) fun b cdv A outer s H E hr c => ss_cons (st_set (i := 1) c rfl (by first | exact .inl rfl | exact .inr rfl) (s_callBx 0 c (ok__law_line T) (hr.mono (by decide)) (by rfl) T.d__law_line.m T.d__law_line.F.kp T.d__law_line.b (pv 0) (sa_cons (s_int) (sa_nil))) (.inr (by decide))) (ss_cons (st_asg (ws := [2, 3]) (s_callBx 0 c (ok__law_two T) (hr.mono (by decide)) (by rfl) T.d__law_two.m T.d__law_two.F.kp T.d__law_two.b (pv 0) (sa_cons (s_name 1 (pv 1)) (sa_nil))) (g_tup c (gs_cons (g_name (i := 2) c rfl (by first | exact .inl rfl | exact .inr rfl) (.inr (by decide)) (by decide)) (gs_cons (g_name (i := 3) c rfl (by first | exact .inl rfl | exact .inr rfl) (.inr (by decide)) (by decide)) (gs_nil))) (len_cons (len_cons (len_nil))))) (ss_cons (st_if (t_eq (s_callBx 0 c (ok__law_take T) (hr.mono (by decide)) (by rfl) T.d__law_take.m T.d__law_take.F.kp T.d__law_take.b (pv 0) (sa_cons (s_int) (sa_nil))) (s_int) c.hu) (ss_one (st_asg (ws := [1, 2, 3]) (s_callBx 0 c (ok__law_great_two T) (hr.mono (by decide)) (by rfl) T.d__law_great_two.m T.d__law_great_two.F.kp T.d__law_great_two.b (pv 0) (sa_nil)) (g_tup c (gs_cons (g_name (i := 1) c rfl (by first | exact .inl rfl | exact .inr rfl) (.inr (by decide)) (by decide)) (gs_cons (g_name (i := 2) c rfl (by first | exact .inl rfl | exact .inr rfl) (.inr (by decide)) (by decide)) (gs_cons (g_name (i := 3) c rfl (by first | exact .inl rfl | exact .inr rfl) (.inr (by decide)) (by decide)) (gs_nil)))) (len_cons (len_cons (len_cons (len_nil))))))) (ss_nil)) (ss_cons (st_setF (i := 4) c rfl (by first | exact .inl rfl | exact .inr rfl) (f_lst (sa_nil)) (.inr (by decide))) (ss_cons (st_for (ws := [5]) c (i_range1 (by rfl) T.z_range (s_callBx 0 c (ok__law_take T) (hr.mono (by decide)) (by rfl) T.d__law_take.m T.d__law_take.F.kp T.d__law_take.b (pv 0) (sa_cons (s_int) (sa_nil)))) (g_name (i := 5) c rfl (by first | exact .inl rfl | exact .inr rfl) (.inr (by decide)) (by decide)) (ss_cons (st_set (i := 6) c rfl (by first | exact .inl rfl | exact .inr rfl) (s_callBx 0 c (ok__law_doors T) (hr.mono (by decide)) (by rfl) T.d__law_doors.m T.d__law_doors.F.kp T.d__law_doors.b (pv 0) (sa_cons (s_name 1 (pv 1)) (sa_nil))) (.inr (by decide))) (ss_cons (st_set (i := 6) c rfl (by first | exact .inl rfl | exact .inr rfl) (s_tuple (by rfl) T.z_tuple ((f_comp c (i_seq (s_name 6 (pv 6))) (blkOk_by (own := [("_law_door", 15)]) (N := n__law_right) (sc := defScope st__law_right) (by decide +kernel)) (fun _ _ _ _ _ => g_name (i := 15) (c.blk _ _ _ _ _) rfl (by first | exact .inl rfl | exact .inr rfl) (.inl rfl) (by decide)) (ts_nil) (fun _ _ _ _ _ => s_callBx 0 (c.blk _ _ _ _ _) (ok__law_of T) (hr.mono (by decide)) (by rfl) T.d__law_of.m T.d__law_of.F.kp T.d__law_of.b (pv 0) (sa_cons (s_lst (sa_cons (s_name 15 (pv 15)) (sa_cons (s_non) (sa_cons (s_callBx 0 (c.blk _ _ _ _ _) (ok__law_wide T) (hr.mono (by decide)) (by rfl) T.d__law_wide.m T.d__law_wide.F.kp T.d__law_wide.b (pv 0) (sa_cons (s_pow (s_int) (s_int)) (sa_nil))) (sa_nil))))) (sa_nil)))).snd)) (.inr (by decide))) (ss_one (st_append 4 (pv 4) (s_tup (sa_cons (s_callBx 0 c (ok__law_of T) (hr.mono (by decide)) (by rfl) T.d__law_of.m T.d__law_of.F.kp T.d__law_of.b (pv 0) (sa_cons (s_lst (sa_cons (s_str) (sa_cons (s_str) (sa_nil)))) (sa_nil))) (sa_cons (s_name 6 (pv 6)) (sa_nil))))))))) (ss_cons (st_par3 (i := 7) (j := 8) (l := 9) c rfl rfl rfl (by decide) (by decide) (by decide) rfl rfl rfl (sa_cons (s_name 2 (pv 2)) (sa_cons (s_name 3 (pv 3)) (sa_cons (s_call c (ok_apart T) (hr.mono (by decide)) (by rfl) T.d_apart.m T.d_apart.F.kp T.d_apart.b (sa_cons (s_name 1 (pv 1)) (sa_cons (s_name 2 (pv 2)) (sa_cons (s_name 3 (pv 3)) (sa_nil))))) (sa_nil)))) (.inr (by decide)) (.inr (by decide)) (.inr (by decide)) (by rfl)) (ss_cons (st_for (ws := [10]) c (i_seq (s_name 4 (pv 4))) (g_name (i := 10) c rfl (by first | exact .inl rfl | exact .inr rfl) (.inr (by decide)) (by decide)) (ss_cons (st_par (i := 7) (j := 8) c rfl rfl (by decide) rfl rfl (sa_cons (s_ix (s_call c (ok_led T) (hr.mono (by decide)) (by rfl) T.d_led.m T.d_led.F.kp T.d_led.b (sa_cons (s_name 1 (pv 1)) (sa_cons (s_name 7 (pv 7)) (sa_cons (s_lst (sa_cons (s_name 10 (pv 10)) (sa_nil))) (sa_nil))))) (s_int)) (sa_cons (s_ix (s_call c (ok_led T) (hr.mono (by decide)) (by rfl) T.d_led.m T.d_led.F.kp T.d_led.b (sa_cons (s_name 1 (pv 1)) (sa_cons (s_name 8 (pv 8)) (sa_cons (s_lst (sa_cons (s_name 10 (pv 10)) (sa_nil))) (sa_nil))))) (s_int)) (sa_nil))) (.inr (by decide)) (.inr (by decide)) (by rfl)) (ss_cons (st_set (i := 11) c rfl (by first | exact .inl rfl | exact .inr rfl) (s_call c (ok_apart T) (hr.mono (by decide)) (by rfl) T.d_apart.m T.d_apart.F.kp T.d_apart.b (sa_cons (s_name 1 (pv 1)) (sa_cons (s_name 7 (pv 7)) (sa_cons (s_name 8 (pv 8)) (sa_nil))))) (.inr (by decide))) (ss_cons (st_if ((w_or (t_gt (s_name 11 (pv 11)) (s_name 9 (pv 9))) (w_or1 ((w_and (t_eq (s_name 9 (pv 9)) (s_int) c.hu) (w_and1 (t_ne (s_name 7 (pv 7)) (s_name 8 (pv 8)) c.hu))).t))).t) (ss_one (st_ret (s_bl))) (ss_nil)) (ss_one (st_set (i := 9) c rfl (by first | exact .inl rfl | exact .inr rfl) (s_name 11 (pv 11)) (.inr (by decide)))))))) (ss_cons (st_asg (ws := [7, 12, 8, 13]) (s_tup (sa_cons (s_call c (ok_led T) (hr.mono (by decide)) (by rfl) T.d_led.m T.d_led.F.kp T.d_led.b (sa_cons (s_name 1 (pv 1)) (sa_cons (s_name 2 (pv 2)) (sa_cons (s_name 4 (pv 4)) (sa_nil))))) (sa_cons (s_call c (ok_led T) (hr.mono (by decide)) (by rfl) T.d_led.m T.d_led.F.kp T.d_led.b (sa_cons (s_name 1 (pv 1)) (sa_cons (s_name 3 (pv 3)) (sa_cons (s_name 4 (pv 4)) (sa_nil))))) (sa_nil)))) (g_tup c (gs_cons (g_tup c (gs_cons (g_name (i := 7) c rfl (by first | exact .inl rfl | exact .inr rfl) (.inr (by decide)) (by decide)) (gs_cons (g_name (i := 12) c rfl (by first | exact .inl rfl | exact .inr rfl) (.inr (by decide)) (by decide)) (gs_nil))) (len_cons (len_cons (len_nil)))) (gs_cons (g_tup c (gs_cons (g_name (i := 8) c rfl (by first | exact .inl rfl | exact .inr rfl) (.inr (by decide)) (by decide)) (gs_cons (g_name (i := 13) c rfl (by first | exact .inl rfl | exact .inr rfl) (.inr (by decide)) (by decide)) (gs_nil))) (len_cons (len_cons (len_nil)))) (gs_nil))) (len_cons (len_cons (len_nil))))) (ss_cons (st_set (i := 14) c rfl (by first | exact .inl rfl | exact .inr rfl) ((f_comp c (i_zip3 (by rfl) T.z_zip (s_call c (ok_between T) (hr.mono (by decide)) (by rfl) T.d_between.m T.d_between.F.kp T.d_between.b (sa_cons (s_name 1 (pv 1)) (sa_cons (s_name 2 (pv 2)) (sa_cons (s_name 3 (pv 3)) (sa_nil))))) (s_name 13 (pv 13)) (s_name 12 (pv 12))) (blkOk_by (own := [("_law_first", 16), ("_law_last", 17), ("_law_tick", 18)]) (N := n__law_right) (sc := defScope st__law_right) (by decide +kernel)) (fun _ _ _ _ _ => g_tup (c.blk _ _ _ _ _) (gs_cons (g_name (i := 16) (c.blk _ _ _ _ _) rfl (by first | exact .inl rfl | exact .inr rfl) (.inl rfl) (by decide)) (gs_cons (g_name (i := 17) (c.blk _ _ _ _ _) rfl (by first | exact .inl rfl | exact .inr rfl) (.inl rfl) (by decide)) (gs_cons (g_name (i := 18) (c.blk _ _ _ _ _) rfl (by first | exact .inl rfl | exact .inr rfl) (.inl rfl) (by decide)) (gs_nil)))) (len_cons (len_cons (len_cons (len_nil))))) (ts_nil) (fun _ _ _ _ _ => s_sub (s_add (s_name 16 (pv 16)) (s_name 17 (pv 17))) (s_name 18 (pv 18)))).snd) (.inr (by decide))) (ss_one (st_ret (s_call c (ok__law_same T 6) (hr.mono (by decide)) (by rfl) T.d__law_same.m T.d__law_same.F.kp T.d__law_same.b (sa_cons (s_call c (ok_between T) (hr.mono (by decide)) (by rfl) T.d_between.m T.d_between.F.kp T.d_between.b (sa_cons (s_name 1 (pv 1)) (sa_cons (s_name 7 (pv 7)) (sa_cons (s_name 8 (pv 8)) (sa_nil))))) (sa_cons (s_tuple (by rfl) T.z_tuple ((f_comp c (i_seq (s_name 14 (pv 14))) (blkOk_by (own := [("_law_number", 19)]) (N := n__law_right) (sc := defScope st__law_right) (by decide +kernel)) (fun _ _ _ _ _ => g_name (i := 19) (c.blk _ _ _ _ _) rfl (by first | exact .inl rfl | exact .inr rfl) (.inl rfl) (by decide)) (ts_nil) (fun _ _ _ _ _ => s_sub (s_name 19 (pv 19)) (s_ixN 14 (pv 14) (s_int)))).snd)) (sa_nil))))))))))))))
theorem ok_law (T : Top K mg) : FnG P w K mg base (L2.CX P w) 8 T.f_law T.fd_law ["_law_script"] (spP K mg 1 f_law) :=
  fn_pure (k := 7) (m := c_law) T.d_law.F sc_law (by decide) fun cdv A outer s H E hr c => ss_cons (st_for (ws := [1]) c (i_range1 (by rfl) T.z_range (s_max2 c.calm (by rfl) T.z_max (s_int) (s_min2 c.calm (by rfl) T.z_min (s_int) (s_lenN 0 (by rfl) T.z_len (pv 0))))) (g_name (i := 1) c rfl (by first | exact .inl rfl | exact .inr rfl) (.inl rfl) (by decide)) (ss_cons (st_setF (i := 2) c rfl (by first | exact .inl rfl | exact .inr rfl) (f_call c (ok__law_box T) (hr.mono (by decide)) (by rfl) T.d__law_box.m T.d__law_box.F.kp T.d__law_box.b (sa_cons (s_name 0 (pv 0)) (sa_cons (s_name 1 (pv 1)) (sa_nil)))) (.inl rfl)) (ss_one (st_if (t_not (t_truth (s_all c.calm (by rfl) T.z_all ((f_comp c (i_range1 (by rfl) T.z_range (s_int)) (blkOk_by (own := [("_law_turn", 3)]) (N := n_law) (sc := defScope st_law) (by decide +kernel)) (fun _ _ _ _ _ => g_name (i := 3) (c.blk _ _ _ _ _) rfl (by first | exact .inl rfl | exact .inr rfl) (.inl rfl) (by decide)) (ts_nil) (fun _ _ _ _ _ => s_callBx 2 (c.blk _ _ _ _ _) (ok__law_right T) (hr.mono (by decide)) (by rfl) T.d__law_right.m T.d__law_right.F.kp T.d__law_right.b (pv 2) (sa_nil))).snd)))) (ss_one (st_ret (s_bl))) (ss_nil))))) (ss_one (st_ret (s_bl)))
end
end Ev

set_option Elab.async false
set_option linter.all false
set_option maxRecDepth 100000
namespace Ev
open PySem L2
local macro_rules | `(tactic| simp_arith only [$ls,*]) => `(tactic| simp -implicitDefEqProofs only [Nat.reduceSub, Nat.reduceAdd, Int.reduceLT, Int.reduceLE, Int.reduceGT, Int.reduceGE, Int.reduceEq, Int.reducePow, Nat.reducePow, Nat.reduceMul, Int.reduceNeg, Int.reduceToNat, Int.reduceAbs, Int.reduceMod, Int.reduceDiv, Int.reduceAdd, Int.reduceSub, Int.reduceMul, Nat.reduceLT, Nat.reduceLeDiff, Nat.reduceEqDiff, decide_eq_true_eq, decide_true, decide_false, and_true, true_and, true_or, or_true, false_or, or_false, and_false, false_and, if_false, ite_true, ite_false, PV.int.injEq, PV.bl.injEq, exists_eq_left', Bool.not_true, Bool.not_false, Bool.false_eq_true, not_true_eq_false, not_false_eq_true, reduceCtorEq, Option.some.injEq, wp_ok, wp_exc, wp_bad, wo_some, wo_none, wo_if, wo_map, wo_bind, wp_of, ws_nx, ws_rt, ws_rf, ws_bk, ws_ct, ws_exc, ws_bad, wp_name, wp_c, wp_m2, wp_m1, wp_test, wp_truthN, wp_sumN, wp_lenN, wp_ixN, wp_and, wp_or, wp_notT, wp_andV, wp_orV, wp_notV, wp_if, wp_ifF, wp_args0, wp_args1, wp_tup, wp_frz, wp_callB, wp_callF, wp_cat, wp_repL, wp_chain, wp_cut, wp_part0, wp_part1, wp_call, wp_callFr, wp_callBx, wp_popN, wp_index, wp_yes, wp_seqI, wp_range, wp_revI, wp_zip, wp_zipB, wp_zipS, wp_enum, wp_zip3, wp_enZ, wp_callK, wp_callKF, wp_callBxF, wp_cps0, wp_cps1, wp_cpv, wp_cpf, ws_parG, ws_seq, ws_nil, ws_never, ws_pass, ws_ret, ws_retF, ws_retN, ws_set, ws_setF, ws_if, ws_asg, ws_par, ws_par3, ws_parF, ws_aug, ws_append, ws_setIx, ws_reverse, ws_clear, ws_extend, ws_popAt, ws_insert, wp_cmpN, wp_callBr, wpP_runP, wpF_runF, wpB_runB, wpP_ok, wpF_ok, wpP_exc, wpB_ok, ws_for', ws_forNil, wp_comp, wpC_nil, $ls,*])
/-! ### values: what operations tell of written shapes -/
section
variable {α β : Type}
theorem ev_g0 {a : α} {l : List α} : (a :: l)[0]? = some a := rfl
theorem ev_gs {a : α} {l : List α} {n : Nat} : (a :: l)[n + 1]? = l[n]? := by simp
theorem ev_gn {n : Nat} : ([] : List α)[n]? = none := rfl
theorem ev_s0 {a b : α} {l : List α} : (a :: l).set 0 b = b :: l := rfl
theorem ev_ss {a b : α} {l : List α} {n : Nat} : (a :: l).set (n + 1) b = a :: l.set n b := rfl
theorem ev_m0 {f : α → β} : List.map f [] = [] := rfl
theorem ev_m1 {f : α → β} {a : α} {l : List α} : List.map f (a :: l) = f a :: List.map f l := rfl
theorem ev_a0 {l : List α} : [] ++ l = l := rfl
theorem ev_a1 {a : α} {l m : List α} : (a :: l) ++ m = a :: (l ++ m) := rfl
theorem ev_r0 {a : α} : List.replicate 0 a = [] := rfl
theorem ev_rs {a : α} {n : Nat} : List.replicate (n + 1) a = a :: List.replicate n a := rfl
theorem ev_l0 : ([] : List α).length = 0 := rfl
theorem ev_l1 {a : α} {l : List α} : (a :: l).length = l.length + 1 := rfl
theorem ev_d0 {l : List α} : l.drop 0 = l := rfl
theorem ev_d1 {a : α} {l : List α} {n : Nat} : (a :: l).drop (n + 1) = l.drop n := rfl
theorem ev_ob {a : α} {f : α → Option β} : (some a).bind f = f a := rfl
theorem ev_om {a : α} {f : α → β} : (some a).map f = some (f a) := rfl
theorem ev_it {P Q : Prop} : (if True then P else Q) = P := by simp
theorem ev_if {P Q : Prop} : (if False then P else Q) = Q := by simp
theorem ev_gl {a b : α} {l : List α} : (a :: b :: l).getLast? = (b :: l).getLast? := by simp
theorem ev_gl1 {a : α} : [a].getLast? = some a := rfl
theorem ev_dl {a b : α} {l : List α} : (a :: b :: l).dropLast = a :: (b :: l).dropLast := rfl
theorem ev_dl1 {a : α} : [a].dropLast = [] := rfl
theorem ev_gla {a : α} {l : List α} : (l ++ [a]).getLast? = some a := by simp
theorem ev_dla {a : α} {l : List α} : (l ++ [a]).dropLast = l := by simp
end
section
variable {i j : Int} {xs ys : List PV} {p q : PV} {x y : Str}
@[simp] theorem add_ii : pvAdd (.int i) (.int j) = some (.int (i + j)) := rfl
@[simp] theorem addI_ii : pvAddI (.int i) (.int j) = some (.int (i + j)) := rfl
@[simp] theorem sub_ii : pvSub (.int i) (.int j) = some (.int (i - j)) := rfl
@[simp] theorem add_ll : pvAdd (.lst xs) (.lst ys) = if xs.length + ys.length ≤ sizeLine then some (.lst (xs ++ ys)) else none := rfl
@[simp] theorem add_tt : pvAdd (.tup xs) (.tup ys) = if xs.length + ys.length ≤ sizeLine then some (.tup (xs ++ ys)) else none := rfl
@[simp] theorem mod_ii : pvMod (.int i) (.int j) = if 0 < j then some (.int (i % j)) else none := rfl
@[simp] theorem div_ii : pvDiv (.int i) (.int j) = if 0 < j ∧ j < 2 ^ 64 then some (.int (i / j)) else none := rfl
@[simp] theorem pow_ii : pvPow (.int i) (.int j) = if 0 ≤ j ∧ j ≤ 1000 ∧ i.natAbs < 2 ^ 64 then some (.int (i ^ j.toNat)) else none := rfl
@[simp] theorem mul_ii : pvMul (.int i) (.int j) = if (-(2 ^ 64) < i ∧ i < 2 ^ 64) ∨ (-(2 ^ 64) < j ∧ j < 2 ^ 64) then some (.int (i * j)) else none := by
  simp [pvMul, smallI]
@[simp] theorem mul_li : pvMul (.lst xs) (.int i) = if -(2 ^ 63) ≤ i ∧ i < 2 ^ 63 ∧ xs.length * i.toNat ≤ sizeLine then some (.lst (List.replicate i.toNat xs).flatten) else none := rfl
@[simp] theorem lt_ii : pvLt (.int i) (.int j) = some (.bl (decide (i < j))) := rfl
@[simp] theorem le_ii : pvLe (.int i) (.int j) = some (.bl (decide (i ≤ j))) := rfl
@[simp] theorem gt_ii : pvGt (.int i) (.int j) = some (.bl (decide (j < i))) := rfl
@[simp] theorem ge_ii : pvGe (.int i) (.int j) = some (.bl (decide (j ≤ i))) := rfl
@[simp] theorem neg_i : pvNeg (.int i) = some (.int (-i)) := rfl
@[simp] theorem eq_ii : pvEq (.int i) (.int j) = some (.bl (decide (i = j))) := by
  simp [pvEq, okD, pvD, PyData.eqv]; rw [Bool.eq_iff_iff]; simp
@[simp] theorem ne_ii : pvNe (.int i) (.int j) = some (.bl (!decide (i = j))) := by
  simp [pvNe, okD, pvD, PyData.eqv]; rw [Bool.eq_iff_iff]; simp
@[simp] theorem eq_bb {a b : Bool} : pvEq (.bl a) (.bl b) = some (.bl (a == b)) := by
  simp [pvEq, okD, pvD, PyData.eqv]
@[simp] theorem ne_bb {a b : Bool} : pvNe (.bl a) (.bl b) = some (.bl (!(a == b))) := by
  simp [pvNe, okD, pvD, PyData.eqv]
theorem eq_ss (hx : PyData.strOk x = true) (hy : PyData.strOk y = true) : pvEq (.str x) (.str y) = some (.bl (x == y)) := by
  simp [pvEq, okD, pvD, PyData.eqv, hx, hy]
theorem eqv_of {b : Bool} (h : pvEq p q = some (.bl b)) (hs : strEq p q = none) : pvEqv p q = some b := by
  unfold pvEq at h
  unfold pvEqv
  split at h
  · rename_i c
    rw [if_pos c]
    cases h
    rfl
  · rw [hs] at h; cases h
theorem xor_f {b : Bool} : Bool.xor false b = b := by cases b <;> rfl
theorem xor_t {b : Bool} : Bool.xor true b = !b := by cases b <;> rfl
theorem eq_str : pvEq (.str x) (.str x) = some (.bl true) := by
  unfold pvEq
  split
  · simp [pvD, PyData.eqv]
  · simp [strEq]
theorem ne_str : pvNe (.str x) (.str x) = some (.bl false) := by
  unfold pvNe
  split
  · simp [pvD, PyData.eqv]
  · simp [strEq]
@[simp] theorem is_bb {a b : Bool} : pvIs (.bl a) (.bl b) = some (.bl (decide (a = b))) := rfl
@[simp] theorem isnot_bb {a b : Bool} : pvIsNot (.bl a) (.bl b) = some (.bl (!decide (a = b))) := rfl
@[simp] theorem is_n : pvIs .non .non = some (.bl true) := rfl
@[simp] theorem is_in : pvIs (.int i) .non = some (.bl false) := rfl
@[simp] theorem is_sn : pvIs (.str x) .non = some (.bl false) := rfl
@[simp] theorem is_bn {b : Bool} : pvIs (.bl b) .non = some (.bl false) := rfl
@[simp] theorem is_tn : pvIs (.tup xs) .non = some (.bl false) := rfl
@[simp] theorem is_ln : pvIs (.lst xs) .non = some (.bl false) := rfl
@[simp] theorem isnot_n : pvIsNot .non .non = some (.bl false) := rfl
@[simp] theorem isnot_in : pvIsNot (.int i) .non = some (.bl true) := rfl
@[simp] theorem truth_b {b : Bool} : pvTruth (.bl b) = some b := rfl
@[simp] theorem truth_i : pvTruth (.int i) = some (i != 0) := rfl
@[simp] theorem truth_l : pvTruth (.lst xs) = some (!xs.isEmpty) := rfl
@[simp] theorem truth_t : pvTruth (.tup xs) = some (!xs.isEmpty) := rfl
@[simp] theorem len_l : pvLen (.lst xs) = some (.int xs.length) := rfl
@[simp] theorem len_t : pvLen (.tup xs) = some (.int xs.length) := rfl
@[simp] theorem len_s {ns : List Int} : pvLen (.scr ns) = some (.int ns.length) := rfl
@[simp] theorem ix_l : pvIx (.lst xs) (.int i) = atI xs i := rfl
@[simp] theorem ix_t : pvIx (.tup xs) (.int i) = atI xs i := rfl
@[simp] theorem ix_s {ns : List Int} : pvIx (.scr ns) (.int i) = (atI ns i).map .int := rfl
@[simp] theorem seq_l : pvSeq (.lst xs) = some xs := rfl
@[simp] theorem seq_t : pvSeq (.tup xs) = some xs := rfl
@[simp] theorem seq_s {ns : List Int} : pvSeq (.scr ns) = some (ns.map .int) := rfl
@[simp] theorem tuple_l : pvTuple (.lst xs) = some (.tup xs) := rfl
@[simp] theorem tuple_t : pvTuple (.tup xs) = some (.tup xs) := rfl
@[simp] theorem list_l : pvList [.lst xs] = some xs := rfl
@[simp] theorem list_t : pvList [.tup xs] = some xs := rfl
@[simp] theorem list_s {ns : List Int} : pvList [.scr ns] = some (ns.map .int) := rfl
@[simp] theorem on1_p {f : PV → Option PV} : on1 f [p] = f p := rfl
@[simp] theorem abs_i : pvAbs (.int i) = some (.int (if i < 0 then -i else i)) := rfl
@[simp] theorem int_b {b : Bool} : pvInt (.bl b) = some (.int (if b then 1 else 0)) := rfl
@[simp] theorem int_i : pvInt (.int i) = some (.int i) := rfl
@[simp] theorem max_ii : pvMax [.int i, .int j] = some (.int (max i j)) := rfl
@[simp] theorem min_ii : pvMin [.int i, .int j] = some (.int (min i j)) := rfl
@[simp] theorem max1_l : pvMax1 [.lst xs] = pvMax [.lst xs] := rfl
@[simp] theorem min1_l : pvMin1 [.lst xs] = pvMin [.lst xs] := rfl
@[simp] theorem rev_l : pvRevI (.lst xs) = some xs.reverse := rfl
@[simp] theorem rev_t : pvRevI (.tup xs) = some xs.reverse := rfl
@[simp] theorem zip_ll : pvZip [.lst xs, .lst ys] = some (List.zipWith pairP xs ys) := rfl
@[simp] theorem zip_tt : pvZip [.tup xs, .tup ys] = some (List.zipWith pairP xs ys) := rfl
@[simp] theorem cat_ll : pvCat (.lst xs) (.lst ys) = if xs.length + ys.length ≤ sizeLine then some (xs ++ ys) else none := rfl
@[simp] theorem range_1 : pvRange [.int j] = @ite _ (-(2 ^ 62) ≤ j ∧ j < 2 ^ 62) (Classical.propDecidable _) (some (rangeP 0 j.toNat)) none := by simp [pvRange, small62]
@[simp] theorem range_2 : pvRange [.int i, .int j] = @ite _ ((-(2 ^ 62) ≤ i ∧ i < 2 ^ 62) ∧ (-(2 ^ 62) ≤ j ∧ j < 2 ^ 62)) (Classical.propDecidable _) (some (rangeP i (j - i).toNat)) none := by simp [pvRange, small62]
@[simp] theorem slot_0 {s : Slot} {r : Rho} : slotV (s :: r) 0 = (match s with | .val p => some p | .own xs => some (.lst xs) | .emp => none) := by cases s <;> rfl
@[simp] theorem slot_s {s : Slot} {r : Rho} {n : Nat} : slotV (s :: r) (n + 1) = slotV r n := by simp [slotV]
@[simp] theorem zip3_lll {zs : List PV} : pvZip3 [.lst xs, .lst ys, .lst zs] = some (tripP xs ys zs) := rfl
@[simp] theorem zip3_llt {zs : List PV} : pvZip3 [.lst xs, .lst ys, .tup zs] = some (tripP xs ys zs) := rfl
@[simp] theorem zip3_ltl {zs : List PV} : pvZip3 [.lst xs, .tup ys, .lst zs] = some (tripP xs ys zs) := rfl
@[simp] theorem zip3_ltt {zs : List PV} : pvZip3 [.lst xs, .tup ys, .tup zs] = some (tripP xs ys zs) := rfl
@[simp] theorem zip3_tll {zs : List PV} : pvZip3 [.tup xs, .lst ys, .lst zs] = some (tripP xs ys zs) := rfl
@[simp] theorem zip3_tlt {zs : List PV} : pvZip3 [.tup xs, .lst ys, .tup zs] = some (tripP xs ys zs) := rfl
@[simp] theorem zip3_ttl {zs : List PV} : pvZip3 [.tup xs, .tup ys, .lst zs] = some (tripP xs ys zs) := rfl
@[simp] theorem zip3_ttt {zs : List PV} : pvZip3 [.tup xs, .tup ys, .tup zs] = some (tripP xs ys zs) := rfl
@[simp] theorem zipB_ll : pvZipB [.lst xs, .lst ys] = some (List.zipWith pairP xs ys) := rfl
@[simp] theorem zipB_tt : pvZipB [.tup xs, .tup ys] = some (List.zipWith pairP xs ys) := rfl
@[simp] theorem zipB_lt : pvZipB [.lst xs, .tup ys] = some (List.zipWith pairP xs ys) := rfl
@[simp] theorem zipB_tl : pvZipB [.tup xs, .lst ys] = some (List.zipWith pairP xs ys) := rfl
@[simp] theorem zipS_ll : pvZipS [.lst xs, .lst ys] = if xs.length = ys.length then some (List.zipWith pairP xs ys) else none := rfl
@[simp] theorem zipS_tt : pvZipS [.tup xs, .tup ys] = if xs.length = ys.length then some (List.zipWith pairP xs ys) else none := rfl
@[simp] theorem zipS_lt : pvZipS [.lst xs, .tup ys] = if xs.length = ys.length then some (List.zipWith pairP xs ys) else none := rfl
@[simp] theorem zipS_tl : pvZipS [.tup xs, .lst ys] = if xs.length = ys.length then some (List.zipWith pairP xs ys) else none := rfl
@[simp] theorem omap_en {xs : List PV} : Option.map enumP (some xs) = some (enumP xs) := rfl
@[simp] theorem enum_l : pvEnum [.lst xs] = some (enumP xs) := rfl
@[simp] theorem enum_t : pvEnum [.tup xs] = some (enumP xs) := rfl
@[simp] theorem down_l : pvDown false (.lst xs) = some (.lst xs.reverse) := rfl
@[simp] theorem down_t : pvDown false (.tup xs) = some (.tup xs.reverse) := rfl
@[simp] theorem down_t0 : pvDown true (.tup xs) = some (.tup (xs.drop 1).reverse) := rfl
@[simp] theorem setAll_0 {r : Rho} : setAll r [] [] = r := rfl
@[simp] theorem setAll_1 {r : Rho} {n : Nat} {ns : List Nat} {s : Slot} {ss : List Slot} : setAll r (n :: ns) (s :: ss) = setAll (r.set n s) ns ss := rfl
@[simp] theorem atom_n : atomP .non = true := rfl
@[simp] theorem atom_b {b : Bool} : atomP (.bl b) = true := rfl
@[simp] theorem atom_i : atomP (.int i) = true := rfl
@[simp] theorem atom_s : atomP (.str x) = true := rfl
@[simp] theorem permP_0 {ps : List PV} : permP [] ps = [] := rfl
@[simp] theorem permP_1 {n : Nat} {ns : List Nat} {ps : List PV} : permP (n :: ns) ps = ps.getD n .non :: permP ns ps := rfl
@[simp] theorem getD_0 : (p :: xs).getD 0 q = p := rfl
@[simp] theorem getD_s {n : Nat} : (p :: xs).getD (n + 1) q = xs.getD n q := rfl
/-! kinds -/
@[simp] theorem isi_int_i : pvIsI [.int i, .ty "int"] = some (.bl true) := rfl
@[simp] theorem isi_int_b {b : Bool} : pvIsI [.bl b, .ty "int"] = some (.bl true) := rfl
@[simp] theorem isi_bool_i : pvIsI [.int i, .ty "bool"] = some (.bl false) := rfl
@[simp] theorem isi_bool_b {b : Bool} : pvIsI [.bl b, .ty "bool"] = some (.bl true) := rfl
@[simp] theorem isi_tup_t : pvIsI [.tup xs, .ty "tuple"] = some (.bl true) := rfl
@[simp] theorem isi_tup_l : pvIsI [.lst xs, .ty "tuple"] = some (.bl false) := rfl
@[simp] theorem isi_lst_l : pvIsI [.lst xs, .ty "list"] = some (.bl true) := rfl
@[simp] theorem isi_lst_t : pvIsI [.tup xs, .ty "list"] = some (.bl false) := rfl
@[simp] theorem isi_str_s : pvIsI [.str x, .ty "str"] = some (.bl true) := rfl
@[simp] theorem isi_str_i : pvIsI [.int i, .ty "str"] = some (.bl false) := rfl
@[simp] theorem isi_str_b {b : Bool} : pvIsI [.bl b, .ty "str"] = some (.bl false) := rfl
@[simp] theorem isi_str_n : pvIsI [.non, .ty "str"] = some (.bl false) := rfl
@[simp] theorem isi_lt_l : pvIsI [.lst xs, .tup [.ty "list", .ty "tuple"]] = some (.bl true) := rfl
@[simp] theorem isi_lt_t : pvIsI [.tup xs, .tup [.ty "list", .ty "tuple"]] = some (.bl true) := rfl
@[simp] theorem isi_lt_i : pvIsI [.int i, .tup [.ty "list", .ty "tuple"]] = some (.bl false) := rfl
@[simp] theorem isi_lt_b {b : Bool} : pvIsI [.bl b, .tup [.ty "list", .ty "tuple"]] = some (.bl false) := rfl
@[simp] theorem isi_lt_s : pvIsI [.str x, .tup [.ty "list", .ty "tuple"]] = some (.bl false) := rfl
@[simp] theorem isi_lt_n : pvIsI [.non, .tup [.ty "list", .ty "tuple"]] = some (.bl false) := rfl
/-! places -/
@[simp] theorem at_0 {α : Type} {a : α} {r : List α} : atI (a :: r) 0 = some a := by simp [atI, ixN]
theorem at_nat {α : Type} {l : List α} {n : Nat} : atI l (n : Int) = l[n]? := by
  unfold atI ixN
  by_cases h : n < l.length
  · simp [h]
  · simp [h]
@[simp] theorem at_1 {α : Type} {a b : α} {r : List α} : atI (a :: b :: r) 1 = some b := at_nat (n := 1)
@[simp] theorem at_2 {α : Type} {a b c : α} {r : List α} : atI (a :: b :: c :: r) 2 = some c := at_nat (n := 2)
@[simp] theorem at_3 {α : Type} {a b c d : α} {r : List α} : atI (a :: b :: c :: d :: r) 3 = some d := at_nat (n := 3)
theorem at_neg {α : Type} {l : List α} {n : Nat} (h : n < l.length) : atI l (-(n + 1 : Nat) : Int) = l[l.length - 1 - n]? := by
  unfold atI ixN
  rw [if_neg (by omega), if_pos (by omega)]
  simp only [Option.bind_some]
  congr 1
  omega
@[simp] theorem at_last {α : Type} {l : List α} {a : α} : atI (l ++ [a]) (-1) = some a := by
  have := at_neg (l := l ++ [a]) (n := 0) (by simp)
  simpa using this
@[simp] theorem mg_name {r : Rho} {n : Nat} : mgName n p r = some (r.set n (.val p)) := rfl
@[simp] theorem mg_tup {gs : MGs} {r : Rho} : mgTup gs (.tup xs) r = gs xs r := rfl
@[simp] theorem mg_lst {gs : MGs} {r : Rho} : mgTup gs (.lst xs) r = gs xs r := rfl
@[simp] theorem mg_nil {r : Rho} : mgNil [] r = some r := rfl
@[simp] theorem mg_cons {g : MG} {gs : MGs} {r : Rho} : mgCons g gs (p :: xs) r = (g p r).bind fun r1 => gs xs r1 := rfl
@[simp] theorem own0_own {r : Rho} : own0 (.own xs :: r) = some xs := rfl
@[simp] theorem startR_eq {N : List Str} {ps : List PV} : startR N ps = ps.map .val ++ List.replicate (N.length - ps.length) .emp := rfl
@[simp] theorem wipe_0 {r : Rho} : wipeR r [] = r := rfl
@[simp] theorem wipe_1 {r : Rho} {v : Nat} {vs : List Nat} : wipeR r (v :: vs) = (wipeR r vs).set v .emp := rfl
@[simp] theorem back_0 {r0 r : Rho} : backR r0 r [] = r := rfl
@[simp] theorem back_1 {r0 r : Rho} {v : Nat} {vs : List Nat} : backR r0 r (v :: vs) = (match r0[v]? with | some s => (backR r0 r vs).set v s | none => backR r0 r vs) := rfl
@[simp] theorem ixN_3_0 : ixN 3 0 = some 0 := rfl
@[simp] theorem ixN_3_1 : ixN 3 1 = some 1 := rfl
@[simp] theorem ixN_3_2 : ixN 3 2 = some 2 := rfl
theorem ixN_0 {n : Nat} (h : 0 < n) : ixN n 0 = some 0 := by simp [ixN, h]
theorem ixN_nat {n k : Nat} (h : k < n) : ixN n (k : Int) = some k := by simp [ixN, h]
end
theorem sz (n : Nat) (h : n ≤ 1000000) : n < sizeLine := Nat.lt_of_le_of_lt h (by decide)
theorem szl {n : Nat} (h : n ≤ 1000000) : (n < sizeLine) = True := eq_true (sz n h)
theorem sze {n : Nat} (h : n ≤ 1000000) : (n ≤ sizeLine) = True := eq_true (Nat.le_of_lt (sz n h))
theorem WpF.use {r : RetF} {Q Q' : List PV → Prop} {E' : Exc → Prop} (h : WpF Q (fun _ => False) r) (k : ∀ p, Q p → Q' p) : WpF Q' E' r := by
  cases r <;> simp_all [WpF]
theorem wp_dict {Q : PV → Rho → Prop} {ρ : Rho} {ks : List Key} {ms : List M} : WpE Q (fun _ _ => False) (mDict ks ms ρ) = WpE (fun ps ρ1 => Q (.dic ks ps) ρ1) (fun _ _ => False) (mArgs ms ρ) := by
  unfold mDict
  cases mArgs ms ρ with
  | ok z => obtain ⟨a, b⟩ := z; rfl
  | exc x r => rfl
  | bad => rfl
/-! a box of draws: its own number, its seed, how many were drawn, n at most -/
def Box (n : Nat) (xs : List PV) : Prop := ∃ a b c : Int, xs = [.int a, .int b, .int c] ∧ 0 ≤ a ∧ 0 ≤ b ∧ b < 2 ^ 40 ∧ 0 ≤ c ∧ c ≤ n
theorem Box.mono {n m : Nat} {xs : List PV} (h : Box n xs) (hn : n ≤ m) : Box m xs := by
  obtain ⟨a, b, c, e, h1, h2, h3, h4, h5⟩ := h
  exact ⟨a, b, c, e, h1, h2, h3, h4, by omega⟩
end Ev

set_option maxHeartbeats 2000000
set_option linter.all false
set_option Elab.async false
set_option maxRecDepth 100000
namespace Ev
open PySem L2
local macro_rules | `(tactic| simp_arith only [$ls,*]) => `(tactic| simp -implicitDefEqProofs only [Nat.reduceSub, Nat.reduceAdd, Int.reduceLT, Int.reduceLE, Int.reduceGT, Int.reduceGE, Int.reduceEq, Int.reducePow, Nat.reducePow, Nat.reduceMul, Int.reduceNeg, Int.reduceToNat, Int.reduceAbs, Int.reduceMod, Int.reduceDiv, Int.reduceAdd, Int.reduceSub, Int.reduceMul, Nat.reduceLT, Nat.reduceLeDiff, Nat.reduceEqDiff, decide_eq_true_eq, decide_true, decide_false, and_true, true_and, true_or, or_true, false_or, or_false, and_false, false_and, if_false, ite_true, ite_false, PV.int.injEq, PV.bl.injEq, exists_eq_left', Bool.not_true, Bool.not_false, Bool.false_eq_true, not_true_eq_false, not_false_eq_true, reduceCtorEq, Option.some.injEq, wp_ok, wp_exc, wp_bad, wo_some, wo_none, wo_if, wo_map, wo_bind, wp_of, ws_nx, ws_rt, ws_rf, ws_bk, ws_ct, ws_exc, ws_bad, wp_name, wp_c, wp_m2, wp_m1, wp_test, wp_truthN, wp_sumN, wp_lenN, wp_ixN, wp_and, wp_or, wp_notT, wp_andV, wp_orV, wp_notV, wp_if, wp_ifF, wp_args0, wp_args1, wp_tup, wp_frz, wp_callB, wp_callF, wp_cat, wp_repL, wp_chain, wp_cut, wp_part0, wp_part1, wp_call, wp_callFr, wp_callBx, wp_popN, wp_index, wp_yes, wp_seqI, wp_range, wp_revI, wp_zip, wp_zipB, wp_zipS, wp_enum, wp_zip3, wp_enZ, wp_callK, wp_callKF, wp_callBxF, wp_cps0, wp_cps1, wp_cpv, wp_cpf, ws_parG, ws_seq, ws_nil, ws_never, ws_pass, ws_ret, ws_retF, ws_retN, ws_set, ws_setF, ws_if, ws_asg, ws_par, ws_par3, ws_parF, ws_aug, ws_append, ws_setIx, ws_reverse, ws_clear, ws_extend, ws_popAt, ws_insert, wp_cmpN, wp_callBr, wpP_runP, wpF_runF, wpB_runB, wpP_ok, wpF_ok, wpP_exc, wpB_ok, ws_for', ws_forNil, wp_comp, wpC_nil, ev_g0, ev_gs, ev_gn, ev_s0, ev_ss, ev_m0, ev_m1, ev_a0, ev_a1, ev_r0, ev_rs, ev_l0, ev_l1, ev_d0, ev_d1, ev_ob, ev_om, ev_it, ev_if, ev_gl, ev_gl1, ev_dl, ev_dl1, ev_gla, ev_dla, add_ii, addI_ii, sub_ii, add_ll, add_tt, mod_ii, div_ii, pow_ii, mul_ii, mul_li, lt_ii, le_ii, gt_ii, ge_ii, neg_i, eq_ii, ne_ii, eq_bb, ne_bb, xor_f, xor_t, eq_str, ne_str, is_bb, isnot_bb, is_n, is_in, is_sn, is_bn, is_tn, is_ln, isnot_n, isnot_in, truth_b, truth_i, truth_l, truth_t, len_l, len_t, len_s, ix_l, ix_t, ix_s, seq_l, seq_t, seq_s, tuple_l, tuple_t, list_l, list_t, list_s, on1_p, abs_i, int_b, int_i, max_ii, min_ii, max1_l, min1_l, rev_l, rev_t, zip_ll, zip_tt, cat_ll, range_1, range_2, slot_0, slot_s, zip3_lll, zip3_llt, zip3_ltl, zip3_ltt, zip3_tll, zip3_tlt, zip3_ttl, zip3_ttt, zipB_ll, zipB_tt, zipB_lt, zipB_tl, zipS_ll, zipS_tt, zipS_lt, zipS_tl, omap_en, enum_l, enum_t, down_l, down_t, down_t0, setAll_0, setAll_1, atom_n, atom_b, atom_i, atom_s, permP_0, permP_1, getD_0, getD_s, isi_int_i, isi_int_b, isi_bool_i, isi_bool_b, isi_tup_t, isi_tup_l, isi_lst_l, isi_lst_t, isi_str_s, isi_str_i, isi_str_b, isi_str_n, isi_lt_l, isi_lt_t, isi_lt_i, isi_lt_b, isi_lt_s, isi_lt_n, at_0, at_1, at_2, at_3, at_last, mg_name, mg_tup, mg_lst, mg_nil, mg_cons, own0_own, startR_eq, wipe_0, wipe_1, back_0, back_1, ixN_3_0, ixN_3_1, ixN_3_2, szl, sze, wp_dict, $ls,*])
theorem take_ok {n : Nat} {xs : List PV} {b : Int} (hx : Box n xs) (hn : n < 2 ^ 40) (h0 : 0 < b) (h1 : b < 2 ^ 64) :
    WpB (fun p ys => ∃ r, p = .int r ∧ 0 ≤ r ∧ r < b ∧ Box (n + 1) ys) (fun _ _ => False) (f__law_take xs [.int b]) := by
  obtain ⟨u, s, c, rfl, hu, hs0, hs1, hc0, hc1⟩ := hx
  have hs : (s + 39373 * (c + 1)).natAbs < 18446744073709551616 := by omega
  have h1' : b < 18446744073709551616 := by omega
  have hm : ∀ z : Int, 0 ≤ z % b ∧ z % b < b := fun z => ⟨Int.emod_nonneg _ (by omega), Int.emod_lt_of_pos _ h0⟩
  simp_arith only [f__law_take, c__law_take, h0, h1', hs]
  split
  · exact ⟨(hm _).1, (hm _).2, _, s, c, rfl, Int.ediv_nonneg hu (by omega), hs0, hs1, hc0, by omega⟩
  · rw [if_pos]
    · exact ⟨(hm _).1, (hm _).2, u, s, c + 1, rfl, hu, hs0, hs1, by omega, by omega⟩
    · generalize (s + 39373 * (c + 1)) ^ 5 = z
      omega
theorem box_ok {ns : List Int} {k : Nat} (hk : k < 100) : WpF (fun xs => Box 0 xs) (fun _ => False) (f__law_box [.scr ns, .int k]) := by
  have fin : ∀ v : Int, Box 0 [.int ((if v < 0 then -v else v) * (if decide (10 ^ 18 ≤ (if v < 0 then -v else v)) = true then 1 else 0)), .int (v % 2147483629 + 7919 * k + 11), .int 0] := fun v => by
    refine ⟨_, _, _, rfl, ?_, ?_, ?_, by omega, by omega⟩
    · split <;> split <;> omega
    · omega
    · omega
  have hk' : (-18446744073709551616 : Int) < k ∧ (k : Int) < 18446744073709551616 := by omega
  simp_arith only [f__law_box, c__law_box]
  by_cases h : k < ns.length
  · have h' : ((k : Int) < (ns.length : Int)) = True := by simp; omega
    have e : atI ns (k : Int) = some ns[k] := by rw [at_nat, List.getElem?_eq_getElem h]
    simp_arith only [h', e, hk']
    have f := fin ns[k]
    simp at f ⊢
    exact ⟨.inr (by split <;> omega), f⟩
  · have h' : ((k : Int) < (ns.length : Int)) = False := by simp; omega
    simp_arith only [h', hk']
    have f := fin 0
    simpa using f
theorem of_ok {n : Nat} {xs l : List PV} (hx : Box n xs) (hn : n < 2 ^ 40) (h0 : l ≠ []) (h1 : l.length < 2 ^ 64) : WpB (fun p ys => p ∈ l ∧ Box (n + 1) ys) (fun _ _ => False) (f__law_of xs [.lst l]) := by
  have hl : 0 < l.length := List.length_pos_iff.mpr h0
  simp_arith only [f__law_of, c__law_of]
  refine (take_ok hx hn (by omega) (by omega)).use fun p ys hp => ?_
  obtain ⟨r, rfl, hr0, hr1, hb⟩ := hp
  obtain ⟨m, rfl⟩ := Int.eq_ofNat_of_zero_le hr0
  have hm : m < l.length := by omega
  simp_arith only [at_nat, List.getElem?_eq_getElem hm]
  exact ⟨List.getElem_mem hm, hb⟩
/-! alike -/
def Pl : Nat → PV → Prop
  | 0, _ => False
  | d + 1, p => match p with
    | .non => True | .bl _ => True | .int _ => True
    | .str x => PyData.strOk x = true
    | .tup xs => xs.length ≤ sizeLine ∧ ∀ x ∈ xs, Pl d x
    | .lst xs => xs.length ≤ sizeLine ∧ ∀ x ∈ xs, Pl d x
    | _ => False
theorem zip_self (xs : List PV) : List.zipWith pairP xs xs = xs.map fun x => pairP x x := by
  induction xs with
  | nil => rfl
  | cons x xs ih => simp [ih]
theorem bls_true (xs : List PV) : blsP (xs.map fun _ => .bl true) = some (xs.map fun _ => true) := by
  induction xs with
  | nil => rfl
  | cons x xs ih => simp [blsP, ih]
theorem same_refl : ∀ (d : Nat) (p : PV), Pl d p → f__law_same d [p, p] = .ok (.bl true)
  | 0, p, h => h.elim
  | d + 1, p, h => by
    have seq : ∀ xs : List PV, xs.length ≤ sizeLine → (∀ x ∈ xs, Pl d x) → ∀ (r : Rho) (QA : List PV → Rho → Prop), r.length = 4 → QA (xs.map fun _ => .bl true) ((r.set 3 .emp).set 2 .emp) →
        WpC QA (compL (mgTup (mgCons (mgName 2) (mgCons (mgName 3) (mgNil)))) (mYes) (mCall (f__law_same d) [mName 2, mName 3]) [2, 3] (xs.map fun x => pairP x x) [] ((r.set 3 .emp).set 2 .emp)) := fun xs hl hx r QA hr hq => by
      match r, hr with
      | [a, b, c, e], _ =>
      refine wpC_map (fun _ => .bl true) (by simpa using hl) (fun p hp => ?_) (by simpa [Function.comp_def] using hq)
      obtain ⟨x, hxm, rfl⟩ := List.mem_map.mp hp
      have ih := same_refl d x (hx x hxm)
      simp_arith only [pairP, ih]
    rw [wpP_eq]
    rw [f__law_same]
    cases p with
    | non => simp_arith only [c__law_same]; simp [pvEq, okD, pvD, PyData.eqv]
    | bl b => simp_arith only [c__law_same]; simp [pvIs]
    | int i => simp_arith only [c__law_same]; simp [pvIs]
    | str x =>
      have hx : PyData.strOk x = true := h
      simp_arith only [c__law_same, eq_ss hx hx]; simp
    | tup xs =>
      simp_arith only [c__law_same, zip_self]
      refine seq xs h.1 h.2 [_, _, .emp, .emp] _ rfl ?_
      simp_arith only [pvAll, bls_true]
      simp
    | lst xs =>
      simp_arith only [c__law_same, zip_self]
      refine seq xs h.1 h.2 [_, _, .emp, .emp] _ rfl ?_
      simp_arith only [pvAll, bls_true]
      simp
    | dic _ _ => exact h.elim
    | scr _ => exact h.elim
    | ty _ => exact h.elim
theorem take_snoc {α : Type} {l : List α} {i : Nat} {a : α} (h : l[i]? = some a) : l.take (i + 1) = l.take i ++ [a] := by
  rw [List.take_add_one, h]; rfl
theorem rangeP_get {lo : Int} {n i : Nat} {p : PV} (h : (rangeP lo n)[i]? = some p) : i < n ∧ p = .int (lo + i) := by
  unfold rangeP at h
  rw [List.getElem?_map] at h
  have hi : i < n := by
    by_cases z : i < n
    · exact z
    · rw [List.getElem?_eq_none (by simp; omega)] at h; cases h
  rw [List.getElem?_range hi] at h
  cases h
  exact ⟨hi, rfl⟩
theorem bls_map {α : Type} (f : α → Bool) (l : List α) : blsP (l.map fun a => .bl (f a)) = some (l.map f) := by
  induction l with
  | nil => rfl
  | cons x xs ih => simp [blsP, ih]
theorem ints_get {l : List Int} {i : Nat} {p : PV} (h : (l.map PV.int)[i]? = some p) : ∃ n, l[i]? = some n ∧ p = .int n := by
  rw [List.getElem?_map] at h
  cases e : l[i]? with
  | none => rw [e] at h; cases h
  | some t => rw [e] at h; cases h; exact ⟨t, rfl, rfl⟩
def ivs (l : List Int) : PV := .lst (l.map .int)
theorem pl_ints (d : Nat) (l : List Int) (h : l.length ≤ 1000) : Pl (d + 2) (ivs l) := by
  refine ⟨by simp; exact Nat.le_of_lt (sz _ (by omega)), fun x hx => ?_⟩
  obtain ⟨n, _, rfl⟩ := List.mem_map.mp hx
  trivial
theorem pl_lst (d : Nat) (l : List PV) (h : l.length ≤ 1000) (hl : ∀ x ∈ l, Pl d x) : Pl (d + 1) (.lst l) := ⟨Nat.le_of_lt (sz _ (by omega)), hl⟩
theorem eqv_ints : ∀ a b : List Int, PyData.eqvAll (pvDs (a.map .int)) (pvDs (b.map .int)) = decide (a = b)
  | [], [] => rfl
  | [], y :: b => rfl
  | x :: a, [] => rfl
  | m :: a, n :: b => by
    have ih := eqv_ints a b
    simp only [List.map_cons, pvDs, pvD, PyData.eqvAll, PyData.eqv] at ih ⊢
    rw [ih, Bool.eq_iff_iff]
    simp
theorem eq_ints (a b : List Int) : pvEq (ivs a) (ivs b) = some (.bl (decide (a = b))) := by
  unfold pvEq ivs
  have h : ∀ a : List Int, okD 12 (.lst (a.map .int)) = true := fun a => by simp [okD]
  rw [h, h]
  simp only [pvD, PyData.eqv, eqv_ints]
  rfl
theorem at_2l {α : Type} {l : List α} {a b : α} : atI (l ++ [b] ++ [a]) (-2) = some b := by
  have := at_neg (l := l ++ [b] ++ [a]) (n := 1) (by simp)
  simpa using this
theorem at_3l {α : Type} {l : List α} {a b c : α} : atI (l ++ [c] ++ [b] ++ [a]) (-3) = some c := by
  have := at_neg (l := l ++ [c] ++ [b] ++ [a]) (n := 2) (by simp)
  simpa using this
end Ev

set_option maxHeartbeats 2000000
set_option linter.all false
set_option Elab.async false
set_option maxRecDepth 100000
namespace Ev
open PySem L2
local macro_rules | `(tactic| simp_arith only [$ls,*]) => `(tactic| simp -implicitDefEqProofs only [Nat.reduceSub, Nat.reduceAdd, Int.reduceLT, Int.reduceLE, Int.reduceGT, Int.reduceGE, Int.reduceEq, Int.reducePow, Nat.reducePow, Nat.reduceMul, Int.reduceNeg, Int.reduceToNat, Int.reduceAbs, Int.reduceMod, Int.reduceDiv, Int.reduceAdd, Int.reduceSub, Int.reduceMul, Nat.reduceLT, Nat.reduceLeDiff, Nat.reduceEqDiff, decide_eq_true_eq, decide_true, decide_false, and_true, true_and, true_or, or_true, false_or, or_false, and_false, false_and, if_false, ite_true, ite_false, PV.int.injEq, PV.bl.injEq, exists_eq_left', Bool.not_true, Bool.not_false, Bool.false_eq_true, not_true_eq_false, not_false_eq_true, reduceCtorEq, Option.some.injEq, wp_ok, wp_exc, wp_bad, wo_some, wo_none, wo_if, wo_map, wo_bind, wp_of, ws_nx, ws_rt, ws_rf, ws_bk, ws_ct, ws_exc, ws_bad, wp_name, wp_c, wp_m2, wp_m1, wp_test, wp_truthN, wp_sumN, wp_lenN, wp_ixN, wp_and, wp_or, wp_notT, wp_andV, wp_orV, wp_notV, wp_if, wp_ifF, wp_args0, wp_args1, wp_tup, wp_frz, wp_callB, wp_callF, wp_cat, wp_repL, wp_chain, wp_cut, wp_part0, wp_part1, wp_call, wp_callFr, wp_callBx, wp_popN, wp_index, wp_yes, wp_seqI, wp_range, wp_revI, wp_zip, wp_zipB, wp_zipS, wp_enum, wp_zip3, wp_enZ, wp_callK, wp_callKF, wp_callBxF, wp_cps0, wp_cps1, wp_cpv, wp_cpf, ws_parG, ws_seq, ws_nil, ws_never, ws_pass, ws_ret, ws_retF, ws_retN, ws_set, ws_setF, ws_if, ws_asg, ws_par, ws_par3, ws_parF, ws_aug, ws_append, ws_setIx, ws_reverse, ws_clear, ws_extend, ws_popAt, ws_insert, wp_cmpN, wp_callBr, wpP_runP, wpF_runF, wpB_runB, wpP_ok, wpF_ok, wpP_exc, wpB_ok, ws_for', ws_forNil, wp_comp, wpC_nil, ev_g0, ev_gs, ev_gn, ev_s0, ev_ss, ev_m0, ev_m1, ev_a0, ev_a1, ev_r0, ev_rs, ev_l0, ev_l1, ev_d0, ev_d1, ev_ob, ev_om, ev_it, ev_if, ev_gl, ev_gl1, ev_dl, ev_dl1, ev_gla, ev_dla, add_ii, addI_ii, sub_ii, add_ll, add_tt, mod_ii, div_ii, pow_ii, mul_ii, mul_li, lt_ii, le_ii, gt_ii, ge_ii, neg_i, eq_ii, ne_ii, eq_bb, ne_bb, xor_f, xor_t, eq_str, ne_str, is_bb, isnot_bb, is_n, is_in, is_sn, is_bn, is_tn, is_ln, isnot_n, isnot_in, truth_b, truth_i, truth_l, truth_t, len_l, len_t, len_s, ix_l, ix_t, ix_s, seq_l, seq_t, seq_s, tuple_l, tuple_t, list_l, list_t, list_s, on1_p, abs_i, int_b, int_i, max_ii, min_ii, max1_l, min1_l, rev_l, rev_t, zip_ll, zip_tt, cat_ll, range_1, range_2, slot_0, slot_s, zip3_lll, zip3_llt, zip3_ltl, zip3_ltt, zip3_tll, zip3_tlt, zip3_ttl, zip3_ttt, zipB_ll, zipB_tt, zipB_lt, zipB_tl, zipS_ll, zipS_tt, zipS_lt, zipS_tl, omap_en, enum_l, enum_t, down_l, down_t, down_t0, setAll_0, setAll_1, atom_n, atom_b, atom_i, atom_s, permP_0, permP_1, getD_0, getD_s, isi_int_i, isi_int_b, isi_bool_i, isi_bool_b, isi_tup_t, isi_tup_l, isi_lst_l, isi_lst_t, isi_str_s, isi_str_i, isi_str_b, isi_str_n, isi_lt_l, isi_lt_t, isi_lt_i, isi_lt_b, isi_lt_s, isi_lt_n, at_0, at_1, at_2, at_3, at_last, mg_name, mg_tup, mg_lst, mg_nil, mg_cons, own0_own, startR_eq, wipe_0, wipe_1, back_0, back_1, ixN_3_0, ixN_3_1, ixN_3_2, szl, sze, wp_dict, eq_ints, $ls,*])
/-! lines -/
def wy (b : Bool) : Str := if b then "forth" else "back"
theorem wy_ok (b : Bool) : PyData.strOk (wy b) = true := by cases b <;> decide +kernel
theorem wy_eq (a b : Bool) : (wy a == wy b) = (a == b) := by cases a <;> cases b <;> decide +kernel
theorem eq_ww (a b : Bool) : pvEq (.str (wy a)) (.str (wy b)) = some (.bl (a == b)) := by rw [eq_ss (wy_ok a) (wy_ok b), wy_eq]
theorem eq_wf (a : Bool) : pvEq (.str (wy a)) (.str "forth") = some (.bl a) := by
  have := eq_ww a true
  rw [show (a == true) = a by cases a <;> rfl] at this
  exact this
/-- a tuple, a list -/
def sq : Bool → List PV → PV
  | true, xs => .tup xs
  | false, xs => .lst xs
section
variable {t u : Bool} {xs ys : List PV} {i : Int}
theorem sq_t : sq true xs = .tup xs := rfl
theorem sq_f : sq false xs = .lst xs := rfl
theorem ix_sq : pvIx (sq t xs) (.int i) = atI xs i := by cases t <;> rfl
theorem len_sq : pvLen (sq t xs) = some (.int xs.length) := by cases t <;> rfl
theorem tuple_sq : pvTuple (sq t xs) = some (.tup xs) := by cases t <;> rfl
theorem list_sq : pvList [sq t xs] = some xs := by cases t <;> rfl
theorem seq_sq : pvSeq (sq t xs) = some xs := by cases t <;> rfl
theorem revI_sq : pvRevI (sq t xs) = some xs.reverse := by cases t <;> rfl
theorem mg_sq {gs : MGs} {r : Rho} : mgTup gs (sq t xs) r = gs xs r := by cases t <;> rfl
theorem zipS_sq : pvZipS [sq t xs, sq u ys] = if xs.length = ys.length then some (List.zipWith pairP xs ys) else none := by cases t <;> cases u <;> rfl
theorem zipS_st : pvZipS [sq t xs, .tup ys] = if xs.length = ys.length then some (List.zipWith pairP xs ys) else none := by cases t <;> rfl
theorem zipS_ts : pvZipS [.tup xs, sq u ys] = if xs.length = ys.length then some (List.zipWith pairP xs ys) else none := by cases u <;> rfl
theorem zipB_sq : pvZipB [sq t xs, sq u ys] = some (List.zipWith pairP xs ys) := by cases t <;> cases u <;> rfl
theorem zipB_st : pvZipB [sq t xs, .tup ys] = some (List.zipWith pairP xs ys) := by cases t <;> rfl
theorem zipB_ts : pvZipB [.tup xs, sq u ys] = some (List.zipWith pairP xs ys) := by cases u <;> rfl
end
structure Ln where
  ring : Bool
  rooms : List Int
def fm (r : Bool) : Str := if r then "ring" else "row"
theorem fm_ok (b : Bool) : PyData.strOk (fm b) = true := by cases b <;> decide +kernel
theorem eq_fm (r : Bool) : pvEq (.str (fm r)) (.str "ring") = some (.bl r) := by
  rw [show PV.str "ring" = PV.str (fm true) from rfl, eq_ss (fm_ok r) (fm_ok true)]; cases r <;> rfl
theorem eq_fmr (r : Bool) : pvEq (.str (fm r)) (.str "row") = some (.bl (!r)) := by
  rw [show PV.str "row" = PV.str (fm false) from rfl, eq_ss (fm_ok r) (fm_ok false)]; cases r <;> rfl
def iv (l : List Int) : List PV := l.map .int
def lnv (t t' : Bool) (L : Ln) : PV := sq t [.str (fm L.ring), sq t' (iv L.rooms)]
def wv : Option Int → PV
  | none => .non
  | some n => .int n
def wvs (ws : List (Option Int)) : List PV := ws.map wv
theorem iv_len (l : List Int) : (iv l).length = l.length := by simp [iv]
theorem wvs_len (l : List (Option Int)) : (wvs l).length = l.length := by simp [wvs]
theorem at_iv {l : List Int} {j : Nat} (h : j < l.length) : atI (iv l) (j : Int) = some (.int (l.getD j 0)) := by
  rw [at_nat, iv, List.getElem?_map, List.getElem?_eq_getElem h]
  simp [List.getD, h]
theorem at_wvs {l : List (Option Int)} {j : Nat} (h : j < l.length) : atI (wvs l) (j : Int) = some (wv (l.getD j none)) := by
  rw [at_nat, wvs, List.getElem?_map, List.getElem?_eq_getElem h]
  simp [List.getD, h]
namespace Ln
variable (L : Ln)
def n : Nat := L.rooms.length
def ng : Nat := if L.ring then L.rooms.length else L.rooms.length + 1
def bh (g : Nat) : Option Nat := if L.ring then some ((g + (L.rooms.length - 1)) % L.rooms.length) else if 0 < g then some (g - 1) else none
def ah (g : Nat) : Option Nat := if L.ring then some g else if g < L.rooms.length then some g else none
def go (j : Nat) : Nat := if L.ring then (j + 1) % L.rooms.length else j + 1
end Ln
def oi : Option Nat → PV
  | none => .non
  | some j => .int j
section
variable {t t' : Bool} {L : Ln}
theorem isring_ok : f_is_ring [lnv t t' L] = .ok (.bl L.ring) := by
  rw [wpP_eq]; simp_arith only [eq_ww, eq_wf, sq_t, sq_f, ix_sq, len_sq, tuple_sq, list_sq, seq_sq, revI_sq, mg_sq, zipS_sq, zipS_st, zipS_ts, zipB_sq, zipB_st, zipB_ts, eq_fm, eq_fmr, iv_len, wvs_len, isring_ok, f_is_ring, c_is_ring, lnv]
theorem bins_ok : f_bins [lnv t t' L] = .ok (.int L.rooms.length) := by
  rw [wpP_eq]; simp_arith only [eq_ww, eq_wf, sq_t, sq_f, ix_sq, len_sq, tuple_sq, list_sq, seq_sq, revI_sq, mg_sq, zipS_sq, zipS_st, zipS_ts, zipB_sq, zipB_st, zipB_ts, eq_fm, eq_fmr, iv_len, wvs_len, isring_ok, bins_ok, f_bins, c_bins, lnv]
theorem gates_ok : f_gates [lnv t t' L] = .ok (.int L.ng) := by
  rw [wpP_eq]; simp_arith only [eq_ww, eq_wf, sq_t, sq_f, ix_sq, len_sq, tuple_sq, list_sq, seq_sq, revI_sq, mg_sq, zipS_sq, zipS_st, zipS_ts, zipB_sq, zipB_st, zipB_ts, eq_fm, eq_fmr, iv_len, wvs_len, isring_ok, bins_ok, gates_ok, f_gates, c_gates]
  cases h : L.ring <;> simp [Ln.ng, h]
theorem behind_ok {g : Nat} (hn : 0 < L.rooms.length) : f_bin_behind [lnv t t' L, .int g] = .ok (oi (L.bh g)) := by
  rw [wpP_eq]; simp_arith only [eq_ww, eq_wf, sq_t, sq_f, ix_sq, len_sq, tuple_sq, list_sq, seq_sq, revI_sq, mg_sq, zipS_sq, zipS_st, zipS_ts, zipB_sq, zipB_st, zipB_ts, eq_fm, eq_fmr, iv_len, wvs_len, isring_ok, bins_ok, gates_ok, behind_ok, f_bin_behind, c_bin_behind]
  have hn' : (0 : Int) < L.rooms.length := by omega
  cases h : L.ring with
  | true =>
    simp only [Ln.bh, h, if_true, oi, if_pos hn']
    rw [show ((g : Int) - 1) = ((g + (L.rooms.length - 1) : Nat) : Int) - L.rooms.length by omega, Int.sub_emod_right]
    simp
  | false =>
    simp only [Ln.bh, h, Bool.false_eq_true, if_false]
    by_cases hg : 0 < g
    · have : (0 : Int) < g := by omega
      simp only [this, hg, if_true, oi]
      congr 1; omega
    · have : ¬ (0 : Int) < g := by omega
      simp only [this, hg, if_false, oi]
theorem ahead_ok {g : Nat} : f_bin_ahead [lnv t t' L, .int g] = .ok (oi (L.ah g)) := by
  rw [wpP_eq]; simp_arith only [eq_ww, eq_wf, sq_t, sq_f, ix_sq, len_sq, tuple_sq, list_sq, seq_sq, revI_sq, mg_sq, zipS_sq, zipS_st, zipS_ts, zipB_sq, zipB_st, zipB_ts, eq_fm, eq_fmr, iv_len, wvs_len, isring_ok, bins_ok, gates_ok, behind_ok, ahead_ok, f_bin_ahead, c_bin_ahead]
  cases h : L.ring with
  | true => simp [Ln.ah, h, oi]
  | false =>
    by_cases hg : g < L.rooms.length
    · have : (g : Int) < L.rooms.length := by omega
      simp [Ln.ah, h, oi, hg]
    · simp [Ln.ah, h, oi, hg]
theorem out_ok {j : Nat} (hn : 0 < L.rooms.length) : f_gate_out [lnv t t' L, .int j] = .ok (.int (L.go j : Nat)) := by
  have hn' : (0 : Int) < L.rooms.length := by omega
  rw [wpP_eq]; simp_arith only [eq_ww, eq_wf, sq_t, sq_f, ix_sq, len_sq, tuple_sq, list_sq, seq_sq, revI_sq, mg_sq, zipS_sq, zipS_st, zipS_ts, zipB_sq, zipB_st, zipB_ts, eq_fm, eq_fmr, iv_len, wvs_len, isring_ok, bins_ok, gates_ok, behind_ok, ahead_ok, out_ok, f_gate_out, c_gate_out, hn']
  cases h : L.ring <;> simp [Ln.go, h]
end
/-! a beat -/
def minO : List Int → Int
  | [] => 0
  | x :: r => r.foldl min x
def tl1 : Option Nat → (Nat → Int) → List Int
  | none, _ => []
  | some j, f => [f j]
def bnds (L : Ln) (ws : List (Option Int)) (st : List Int) (w : Bool) (g : Nat) : List Int :=
  (ws.getD g none).toList ++ tl1 (if w then L.bh g else L.ah g) (fun j => st.getD j 0) ++ tl1 (if w then L.ah g else L.bh g) (fun j => L.rooms.getD j 0 - st.getD j 0)
def gs (L : Ln) (ws : List (Option Int)) (st : List Int) (w : Bool) (g : Nat) : Int := minO (bnds L ws st w g)
theorem bh_lt {L : Ln} {g j : Nat} (hn : 0 < L.rooms.length) (hg : g < L.ng) (h : L.bh g = some j) : j < L.rooms.length := by
  unfold Ln.bh at h
  split at h
  · cases h; exact Nat.mod_lt _ hn
  · split at h
    · cases h; unfold Ln.ng at hg; simp_all; omega
    · cases h
theorem ah_lt {L : Ln} {g j : Nat} (hg : g < L.ng) (h : L.ah g = some j) : j < L.rooms.length := by
  unfold Ln.ah at h
  split at h
  · cases h; unfold Ln.ng at hg; simp_all
  · split at h
    · cases h; assumption
    · cases h
theorem min_l {l : List Int} (h : l ≠ []) : pvMin [.lst (l.map .int)] = some (.int (minO l)) := by
  cases l with
  | nil => exact absurd rfl h
  | cons a l =>
    show ((intsP ((a :: l).map .int)).bind fun ns => (minL ns).map PV.int) = _
    rw [intsP_map]; rfl
theorem lnvIx {t t' : Bool} {L : Ln} : pvIx (lnv t t' L) (.int 1) = some (sq t' (iv L.rooms)) := by cases t <;> rfl
theorem goes_ok {t t' t1 t2 : Bool} {L : Ln} {ws : List (Option Int)} {st : List Int} {w : Bool} {g : Nat} (hn : 0 < L.rooms.length) (hs : st.length = L.rooms.length) (hw : ws.length = L.ng) (hg : g < L.ng) :
    f_goes [lnv t t' L, sq t1 (wvs ws), sq t2 (iv st), .str (wy w), .int g] = .ok (.int (gs L ws st w g)) := by
  have aw := at_wvs (l := ws) (j := g) (by omega)
  have ne : bnds L ws st w g ≠ [] := by
    unfold bnds
    unfold Ln.ng at hg
    cases hr : L.ring with
    | true => cases w <;> simp [Ln.bh, Ln.ah, hr, tl1]
    | false =>
      simp only [hr, Bool.false_eq_true, if_false] at hg
      by_cases h0 : 0 < g
      · cases w <;> simp [Ln.bh, Ln.ah, hr, tl1, h0]
      · have : g < L.rooms.length := by omega
        cases w <;> simp [Ln.bh, Ln.ah, hr, tl1, this]
  have h1 : ∀ j, L.bh g = some j → j < L.rooms.length := fun j h => bh_lt hn hg h
  have h2 : ∀ j, L.ah g = some j → j < L.rooms.length := fun j h => ah_lt hg h
  rw [wpP_eq]
  unfold bnds at ne
  unfold gs bnds
  cases hw0 : ws.getD g none with
  | none =>
    rw [hw0] at aw ne
    cases hb : L.bh g with
    | none =>
      cases ha : L.ah g with
      | none => rw [hb, ha] at ne; cases w <;> exact absurd rfl ne
      | some b =>
        have a1 := at_iv (l := L.rooms) (h2 b ha)
        have a2 := at_iv (l := st) (j := b) (by rw [hs]; exact h2 b ha)
        cases w <;> (simp_arith only [eq_ww, eq_wf, sq_t, sq_f, ix_sq, len_sq, tuple_sq, list_sq, seq_sq, revI_sq, mg_sq, zipS_sq, zipS_st, zipS_ts, zipB_sq, zipB_st, zipB_ts, eq_fm, eq_fmr, iv_len, wvs_len, isring_ok, bins_ok, gates_ok, behind_ok, ahead_ok, out_ok, f_goes, c_goes, hn, aw, wv, hb, ha, oi, lnvIx, a1, a2]; simp [pvMin, intsP, minL, tl1, minO])
    | some a =>
      have b1 := at_iv (l := L.rooms) (h1 a hb)
      have b2 := at_iv (l := st) (j := a) (by rw [hs]; exact h1 a hb)
      cases ha : L.ah g with
      | none => cases w <;> (simp_arith only [eq_ww, eq_wf, sq_t, sq_f, ix_sq, len_sq, tuple_sq, list_sq, seq_sq, revI_sq, mg_sq, zipS_sq, zipS_st, zipS_ts, zipB_sq, zipB_st, zipB_ts, eq_fm, eq_fmr, iv_len, wvs_len, isring_ok, bins_ok, gates_ok, behind_ok, ahead_ok, out_ok, f_goes, c_goes, hn, aw, wv, hb, ha, oi, lnvIx, b1, b2]; simp [pvMin, intsP, minL, tl1, minO])
      | some b =>
        have a1 := at_iv (l := L.rooms) (h2 b ha)
        have a2 := at_iv (l := st) (j := b) (by rw [hs]; exact h2 b ha)
        cases w <;> (simp_arith only [eq_ww, eq_wf, sq_t, sq_f, ix_sq, len_sq, tuple_sq, list_sq, seq_sq, revI_sq, mg_sq, zipS_sq, zipS_st, zipS_ts, zipB_sq, zipB_st, zipB_ts, eq_fm, eq_fmr, iv_len, wvs_len, isring_ok, bins_ok, gates_ok, behind_ok, ahead_ok, out_ok, f_goes, c_goes, hn, aw, wv, hb, ha, oi, lnvIx, a1, a2, b1, b2]; simp [pvMin, intsP, minL, tl1, minO])
  | some v =>
    rw [hw0] at aw ne
    cases hb : L.bh g with
    | none =>
      cases ha : L.ah g with
      | none => cases w <;> (simp_arith only [eq_ww, eq_wf, sq_t, sq_f, ix_sq, len_sq, tuple_sq, list_sq, seq_sq, revI_sq, mg_sq, zipS_sq, zipS_st, zipS_ts, zipB_sq, zipB_st, zipB_ts, eq_fm, eq_fmr, iv_len, wvs_len, isring_ok, bins_ok, gates_ok, behind_ok, ahead_ok, out_ok, f_goes, c_goes, hn, aw, wv, hb, ha, oi, lnvIx]; simp [pvMin, intsP, minL, tl1, minO])
      | some b =>
        have a1 := at_iv (l := L.rooms) (h2 b ha)
        have a2 := at_iv (l := st) (j := b) (by rw [hs]; exact h2 b ha)
        cases w <;> (simp_arith only [eq_ww, eq_wf, sq_t, sq_f, ix_sq, len_sq, tuple_sq, list_sq, seq_sq, revI_sq, mg_sq, zipS_sq, zipS_st, zipS_ts, zipB_sq, zipB_st, zipB_ts, eq_fm, eq_fmr, iv_len, wvs_len, isring_ok, bins_ok, gates_ok, behind_ok, ahead_ok, out_ok, f_goes, c_goes, hn, aw, wv, hb, ha, oi, lnvIx, a1, a2]; simp [pvMin, intsP, minL, tl1, minO])
    | some a =>
      have b1 := at_iv (l := L.rooms) (h1 a hb)
      have b2 := at_iv (l := st) (j := a) (by rw [hs]; exact h1 a hb)
      cases ha : L.ah g with
      | none => cases w <;> (simp_arith only [eq_ww, eq_wf, sq_t, sq_f, ix_sq, len_sq, tuple_sq, list_sq, seq_sq, revI_sq, mg_sq, zipS_sq, zipS_st, zipS_ts, zipB_sq, zipB_st, zipB_ts, eq_fm, eq_fmr, iv_len, wvs_len, isring_ok, bins_ok, gates_ok, behind_ok, ahead_ok, out_ok, f_goes, c_goes, hn, aw, wv, hb, ha, oi, lnvIx, b1, b2]; simp [pvMin, intsP, minL, tl1, minO])
      | some b =>
        have a1 := at_iv (l := L.rooms) (h2 b ha)
        have a2 := at_iv (l := st) (j := b) (by rw [hs]; exact h2 b ha)
        cases w <;> (simp_arith only [eq_ww, eq_wf, sq_t, sq_f, ix_sq, len_sq, tuple_sq, list_sq, seq_sq, revI_sq, mg_sq, zipS_sq, zipS_st, zipS_ts, zipB_sq, zipB_st, zipB_ts, eq_fm, eq_fmr, iv_len, wvs_len, isring_ok, bins_ok, gates_ok, behind_ok, ahead_ok, out_ok, f_goes, c_goes, hn, aw, wv, hb, ha, oi, lnvIx, a1, a2, b1, b2]; simp [pvMin, intsP, minL, tl1, minO])
/-! comprehensions -/
theorem wpC_list {α : Type} {QA : List PV → Rho → Prop} {g : MG} {e : M} {ws : List Nat} {ρ : Rho} {l : List α} {f : α → PV} (F : α → PV) (hl : l.length ≤ 1000000)
    (hs : ∀ a ∈ l, WpO (fun ρ1 => WpE (fun y ρ3 => y = F a ∧ wipeR ρ3 ws = ρ) (fun _ _ => False) (e ρ1)) (g (f a) ρ)) (he : QA (l.map F) ρ) : WpC QA (compL g mYes e ws (l.map f) [] ρ) := by
  refine wpC_inv (fun i acc ρ' => ρ' = ρ ∧ acc = (l.take i).map F) ⟨rfl, rfl⟩ ?_ ?_
  · rintro i p acc ρ' ei ⟨rfl, rfl⟩
    rw [List.getElem?_map] at ei
    cases ea : l[i]? with
    | none => rw [ea] at ei; cases ei
    | some a =>
    rw [ea] at ei
    cases ei
    have h1 := hs a (List.mem_of_getElem? ea)
    cases hg : g (f a) ρ' with
    | none => rw [hg] at h1; exact h1.elim
    | some ρ0 =>
    rw [hg] at h1
    simp only [wo_some, wp_yes, if_true] at h1 ⊢
    refine h1.mono (fun y ρ3 q => ?_) fun _ _ z => z
    obtain ⟨rfl, q⟩ := q
    refine ⟨sz _ (by simp; omega), q, ?_⟩
    rw [take_snoc ea]; simp
  · rintro acc ρ' ⟨rfl, rfl⟩
    simpa using he
theorem wpC_range {QA : List PV → Rho → Prop} {g : MG} {e : M} {ws : List Nat} {ρ : Rho} {n : Nat} (F : Nat → PV) (hn : n ≤ 1000000)
    (hs : ∀ i, i < n → WpO (fun ρ1 => WpE (fun y ρ3 => y = F i ∧ wipeR ρ3 ws = ρ) (fun _ _ => False) (e ρ1)) (g (.int (i : Nat)) ρ)) (he : QA ((List.range n).map F) ρ) : WpC QA (compL g mYes e ws (rangeP 0 n) [] ρ) := by
  have e1 : rangeP 0 n = (List.range n).map fun (i : Nat) => PV.int (i : Nat) := by unfold rangeP; simp
  rw [e1]
  exact wpC_list F (by simpa using hn) (fun i hi => hs i (List.mem_range.mp hi)) he
theorem zip_pair {α β : Type} (f : α → PV) (h : β → PV) : ∀ (a : List α) (b : List β), List.zipWith pairP (a.map f) (b.map h) = (a.zip b).map fun p => pairP (f p.1) (h p.2)
  | [], b => by simp
  | x :: a, [] => by simp
  | x :: a, y :: b => by simp [zip_pair f h a b]
theorem zmap {α β γ : Type} (F : α → β → γ) : ∀ (a : List α) (b : List β), (a.zip b).map (fun p => F p.1 p.2) = List.zipWith F a b
  | [], b => by simp
  | x :: a, [] => by simp
  | x :: a, y :: b => by simp [zmap F a b]
theorem mul_zeros1 {n : Nat} (h : 1 ≤ n) (h1 : n ≤ 1000) : pvMul (.tup [.int 0]) (.int (n : Nat)) = some (.tup (iv (List.replicate n 0))) := by
  show (if ([PV.int 0] ≠ [] ∧ (2 : Int) ≤ (n : Int) ∧ (n : Int) ≤ 1000 ∧ [PV.int 0].length ≤ 1000) then some (PV.tup (List.replicate (n : Int).toNat [PV.int 0]).flatten) else if (n : Int) = 1 then some (PV.tup [PV.int 0]) else none) = _
  by_cases h2 : 2 ≤ n
  · rw [if_pos ⟨by simp, by omega, by omega, by simp⟩]
    congr 2
    simp only [Int.toNat_natCast]
    clear h h1 h2
    induction n with
    | zero => rfl
    | succ n ih => simp [List.replicate_succ, iv] at ih ⊢
  · have : n = 1 := by omega
    subst this
    rw [if_neg (by omega), if_pos (show ((1 : Nat) : Int) = 1 from rfl)]
    rfl
theorem mul_zeros {n : Nat} (h : 2 ≤ n) (h1 : n ≤ 1000) : pvMul (.tup [.int 0]) (.int (n : Nat)) = some (.tup (iv (List.replicate n 0))) := mul_zeros1 (by omega) h1
/-! what goes, what lies where behind it -/
def mv (L : Ln) (ws : List (Option Int)) (st : List Int) (w : Bool) : List Int := (List.range L.ng).map (gs L ws st w)
def bc (L : Ln) (st cs : List Int) : List Int := (List.range L.rooms.length).map fun j => st.getD j 0 + cs.getD j 0 - cs.getD (L.go j) 0
def sg (cs : List Int) (w : Bool) : List Int := if w then cs else cs.map fun c => -c
def bt (L : Ln) (ws : List (Option Int)) (st : List Int) (w : Bool) : List Int := bc L st (sg (mv L ws st w) w)
@[simp] theorem mv_len (L : Ln) (ws : List (Option Int)) (st : List Int) (w : Bool) : (mv L ws st w).length = L.ng := by simp [mv]
@[simp] theorem bc_len (L : Ln) (st cs : List Int) : (bc L st cs).length = L.rooms.length := by simp [bc]
@[simp] theorem sg_len (cs : List Int) (w : Bool) : (sg cs w).length = cs.length := by unfold sg; split <;> simp
@[simp] theorem bt_len (L : Ln) (ws : List (Option Int)) (st : List Int) (w : Bool) : (bt L ws st w).length = L.rooms.length := by simp [bt]
/-- a line, widths and contents that fit -/
structure Fit (L : Ln) (ws : List (Option Int)) (st : List Int) : Prop where
  n : 0 < L.rooms.length
  n1 : L.rooms.length ≤ 900
  s : st.length = L.rooms.length
  w : ws.length = L.ng
theorem ng_le (L : Ln) (h : L.rooms.length ≤ 900) : L.ng ≤ 901 := by unfold Ln.ng; split <;> omega
theorem go_lt {L : Ln} {j : Nat} (hn : 0 < L.rooms.length) (h : j < L.rooms.length) : L.go j < L.ng := by
  unfold Ln.go Ln.ng
  split
  · exact Nat.mod_lt _ hn
  · omega
theorem ng_ge {L : Ln} : L.rooms.length ≤ L.ng := by unfold Ln.ng; split <;> omega
section
variable {t t' t1 t2 : Bool} {L : Ln} {ws : List (Option Int)} {st : List Int} {w : Bool}
theorem moved_ok (h : Fit L ws st) : f_moved [lnv t t' L, sq t1 (wvs ws), sq t2 (iv st), .str (wy w)] = .ok (.tup (iv (mv L ws st w))) := by
  have hng := ng_le L h.n1
  rw [wpP_eq]
  simp_arith only [eq_ww, eq_wf, sq_t, sq_f, ix_sq, len_sq, tuple_sq, list_sq, seq_sq, revI_sq, mg_sq, zipS_sq, zipS_st, zipS_ts, zipB_sq, zipB_st, zipB_ts, eq_fm, eq_fmr, iv_len, wvs_len, isring_ok, bins_ok, gates_ok, behind_ok, ahead_ok, out_ok, f_moved, c_moved]
  rw [if_pos (by omega)]
  refine wpC_range (fun i => .int (gs L ws st w i)) (by simp; omega) (fun i hi => ?_) ?_
  · simp_arith only [eq_ww, eq_wf, sq_t, sq_f, ix_sq, len_sq, tuple_sq, list_sq, seq_sq, revI_sq, mg_sq, zipS_sq, zipS_st, zipS_ts, zipB_sq, zipB_st, zipB_ts, eq_fm, eq_fmr, iv_len, wvs_len, isring_ok, bins_ok, gates_ok, behind_ok, ahead_ok, out_ok, goes_ok (t := t) (t' := t') (t1 := t1) (t2 := t2) (w := w) h.n h.s h.w (show i < L.ng by simpa using hi)]
  · simp_arith only [eq_ww, eq_wf, sq_t, sq_f, ix_sq, len_sq, tuple_sq, list_sq, seq_sq, revI_sq, mg_sq, zipS_sq, zipS_st, zipS_ts, zipB_sq, zipB_st, zipB_ts, eq_fm, eq_fmr, iv_len, wvs_len, isring_ok, bins_ok, gates_ok, behind_ok, ahead_ok, out_ok]
    simp [iv, mv]
theorem bc_ok {t3 : Bool} {cs : List Int} (h : Fit L ws st) (hc : cs.length = L.ng) : f_behind_counts [lnv t t' L, sq t2 (iv st), sq t3 (iv cs)] = .ok (.tup (iv (bc L st cs))) := by
  rw [wpP_eq]
  simp_arith only [eq_ww, eq_wf, sq_t, sq_f, ix_sq, len_sq, tuple_sq, list_sq, seq_sq, revI_sq, mg_sq, zipS_sq, zipS_st, zipS_ts, zipB_sq, zipB_st, zipB_ts, eq_fm, eq_fmr, iv_len, wvs_len, isring_ok, bins_ok, gates_ok, behind_ok, ahead_ok, out_ok, f_behind_counts, c_behind_counts]
  have h1 := h.n1
  rw [if_pos (by omega)]
  refine wpC_range (fun j => .int (st.getD j 0 + cs.getD j 0 - cs.getD (L.go j) 0)) (by simp; omega) (fun j hj => ?_) ?_
  · replace hj : j < L.rooms.length := by simpa using hj
    have a1 := at_iv (l := st) (j := j) (by rw [h.s]; exact hj)
    have a2 := at_iv (l := cs) (j := j) (by rw [hc]; exact Nat.lt_of_lt_of_le hj ng_ge)
    have a3 := at_iv (l := cs) (j := L.go j) (by rw [hc]; exact go_lt h.n hj)
    simp_arith only [eq_ww, eq_wf, sq_t, sq_f, ix_sq, len_sq, tuple_sq, list_sq, seq_sq, revI_sq, mg_sq, zipS_sq, zipS_st, zipS_ts, zipB_sq, zipB_st, zipB_ts, eq_fm, eq_fmr, iv_len, wvs_len, isring_ok, bins_ok, gates_ok, behind_ok, ahead_ok, out_ok, a1, a2, a3, h.n]
  · simp_arith only [eq_ww, eq_wf, sq_t, sq_f, ix_sq, len_sq, tuple_sq, list_sq, seq_sq, revI_sq, mg_sq, zipS_sq, zipS_st, zipS_ts, zipB_sq, zipB_st, zipB_ts, eq_fm, eq_fmr, iv_len, wvs_len, isring_ok, bins_ok, gates_ok, behind_ok, ahead_ok, out_ok]
    simp [iv, bc]
theorem signed_ok {cs : List Int} (hc : cs.length ≤ 1000000) : f_signed [.tup (iv cs), .str (wy w)] = .ok (.tup (iv (sg cs w))) := by
  rw [wpP_eq]
  cases w with
  | true => simp_arith only [eq_ww, eq_wf, sq_t, sq_f, ix_sq, len_sq, tuple_sq, list_sq, seq_sq, revI_sq, mg_sq, zipS_sq, zipS_st, zipS_ts, zipB_sq, zipB_st, zipB_ts, eq_fm, eq_fmr, iv_len, wvs_len, isring_ok, bins_ok, gates_ok, behind_ok, ahead_ok, out_ok, f_signed, c_signed, sg]
  | false =>
    simp_arith only [eq_ww, eq_wf, sq_t, sq_f, ix_sq, len_sq, tuple_sq, list_sq, seq_sq, revI_sq, mg_sq, zipS_sq, zipS_st, zipS_ts, zipB_sq, zipB_st, zipB_ts, eq_fm, eq_fmr, iv_len, wvs_len, isring_ok, bins_ok, gates_ok, behind_ok, ahead_ok, out_ok, f_signed, c_signed, iv]
    refine wpC_list (fun a => .int (-a)) hc (fun a _ => ?_) ?_
    · simp_arith only [eq_ww, eq_wf, sq_t, sq_f, ix_sq, len_sq, tuple_sq, list_sq, seq_sq, revI_sq, mg_sq, zipS_sq, zipS_st, zipS_ts, zipB_sq, zipB_st, zipB_ts, eq_fm, eq_fmr, iv_len, wvs_len, isring_ok, bins_ok, gates_ok, behind_ok, ahead_ok, out_ok]
    · simp_arith only [eq_ww, eq_wf, sq_t, sq_f, ix_sq, len_sq, tuple_sq, list_sq, seq_sq, revI_sq, mg_sq, zipS_sq, zipS_st, zipS_ts, zipB_sq, zipB_st, zipB_ts, eq_fm, eq_fmr, iv_len, wvs_len, isring_ok, bins_ok, gates_ok, behind_ok, ahead_ok, out_ok]
      simp [sg, iv]
theorem beat_ok (h : Fit L ws st) : f_beat [lnv t t' L, sq t1 (wvs ws), sq t2 (iv st), .str (wy w)] = .ok (.tup (iv (bt L ws st w))) := by
  have hng := ng_le L h.n1
  rw [wpP_eq]
  have b := bc_ok (t := t) (t' := t') (t2 := t2) (t3 := true) (cs := sg (mv L ws st w) w) h (by simp)
  simp_arith only [eq_ww, eq_wf, sq_t, sq_f, ix_sq, len_sq, tuple_sq, list_sq, seq_sq, revI_sq, mg_sq, zipS_sq, zipS_st, zipS_ts, zipB_sq, zipB_st, zipB_ts, eq_fm, eq_fmr, iv_len, wvs_len, isring_ok, bins_ok, gates_ok, behind_ok, ahead_ok, out_ok, f_beat, c_beat, moved_ok h, signed_ok (w := w) (cs := mv L ws st w) (by simp; omega)]
  rw [sq_t] at b
  simp_arith only [eq_ww, eq_wf, sq_t, sq_f, ix_sq, len_sq, tuple_sq, list_sq, seq_sq, revI_sq, mg_sq, zipS_sq, zipS_st, zipS_ts, zipB_sq, zipB_st, zipB_ts, eq_fm, eq_fmr, iv_len, wvs_len, isring_ok, bins_ok, gates_ok, behind_ok, ahead_ok, out_ok, b]
  rfl
theorem summed_ok {t3 : Bool} {a b : List Int} (hl : a.length = b.length) (hc : a.length ≤ 1000000) : f_summed [sq t2 (iv a), sq t3 (iv b)] = .ok (.tup (iv (List.zipWith (· + ·) a b))) := by
  rw [wpP_eq]
  simp_arith only [eq_ww, eq_wf, sq_t, sq_f, ix_sq, len_sq, tuple_sq, list_sq, seq_sq, revI_sq, mg_sq, zipS_sq, zipS_st, zipS_ts, zipB_sq, zipB_st, zipB_ts, eq_fm, eq_fmr, iv_len, wvs_len, isring_ok, bins_ok, gates_ok, behind_ok, ahead_ok, out_ok, f_summed, c_summed, hl]
  unfold iv
  rw [zip_pair]
  refine wpC_list (fun p => .int (p.1 + p.2)) (by simp; omega) (fun p _ => ?_) ?_
  · simp_arith only [eq_ww, eq_wf, sq_t, sq_f, ix_sq, len_sq, tuple_sq, list_sq, seq_sq, revI_sq, mg_sq, zipS_sq, zipS_st, zipS_ts, zipB_sq, zipB_st, zipB_ts, eq_fm, eq_fmr, iv_len, wvs_len, isring_ok, bins_ok, gates_ok, behind_ok, ahead_ok, out_ok, pairP]
  · simp_arith only [eq_ww, eq_wf, sq_t, sq_f, ix_sq, len_sq, tuple_sq, list_sq, seq_sq, revI_sq, mg_sq, zipS_sq, zipS_st, zipS_ts, zipB_sq, zipB_st, zipB_ts, eq_fm, eq_fmr, iv_len, wvs_len, isring_ok, bins_ok, gates_ok, behind_ok, ahead_ok, out_ok]
    rw [zmap (fun x y => PV.int (x + y))]
    simp [iv, List.map_zipWith]
/-! runs -/
abbrev Bt := Bool × List (Option Int)
def rv (r : Bt) : PV := .tup [.str (wy r.1), .tup (wvs r.2)]
def rvs (l : List Bt) : PV := .lst (l.map rv)
def ldS (L : Ln) (p : List Int × List Int) (r : Bt) : List Int × List Int := (bt L r.2 p.1 r.1, List.zipWith (· + ·) p.2 (sg (mv L r.2 p.1 r.1) r.1))
def ld (L : Ln) (st : List Int) (run : List Bt) : List Int × List Int := run.foldl (ldS L) (st, List.replicate L.ng 0)
theorem ldS_len {L : Ln} (p : List Int × List Int) (r : Bt) (h1 : p.1.length = L.rooms.length) (h2 : p.2.length = L.ng) : (ldS L p r).1.length = L.rooms.length ∧ (ldS L p r).2.length = L.ng := by
  simp [ldS, h2]
theorem ldF_len {L : Ln} (run : List Bt) (p : List Int × List Int) (h1 : p.1.length = L.rooms.length) (h2 : p.2.length = L.ng) : (run.foldl (ldS L) p).1.length = L.rooms.length ∧ (run.foldl (ldS L) p).2.length = L.ng := by
  induction run generalizing p with
  | nil => exact ⟨h1, h2⟩
  | cons r run ih =>
    have := ldS_len p r h1 h2
    exact ih _ this.1 this.2
theorem ld_len {L : Ln} {st : List Int} (run : List Bt) (h1 : st.length = L.rooms.length) : (ld L st run).1.length = L.rooms.length ∧ (ld L st run).2.length = L.ng := ldF_len run _ h1 (by simp)
/-- a line and a run that fit -/
structure FitR (L : Ln) (st : List Int) (run : List Bt) : Prop where
  n : 0 < L.rooms.length
  n1 : L.rooms.length ≤ 900
  g2 : 2 ≤ L.ng
  s : st.length = L.rooms.length
  w : ∀ r ∈ run, r.2.length = L.ng
theorem led_ok {run : List Bt} (h : FitR L st run) : f_led [lnv t t' L, sq t2 (iv st), rvs run] = .ok (.tup [.tup (iv (ld L st run).1), .tup (iv (ld L st run).2)]) := by
  have hng := ng_le L h.n1
  rw [wpP_eq]
  simp_arith only [eq_ww, eq_wf, sq_t, sq_f, ix_sq, len_sq, tuple_sq, list_sq, seq_sq, revI_sq, mg_sq, zipS_sq, zipS_st, zipS_ts, zipB_sq, zipB_st, zipB_ts, eq_fm, eq_fmr, iv_len, wvs_len, isring_ok, bins_ok, gates_ok, behind_ok, ahead_ok, out_ok, f_led, c_led, mul_zeros h.g2 (by omega), rvs]
  refine ws_forInv (fun i ρ => ∃ a b, ρ = [.val (lnv t t' L), .val (sq t2 (iv st)), .val (.lst (run.map rv)), .val (.tup (iv ((run.take i).foldl (ldS L) (st, List.replicate L.ng 0)).1)), .val (.tup (iv ((run.take i).foldl (ldS L) (st, List.replicate L.ng 0)).2)), a, b]) ⟨_, _, rfl⟩ ?_ ?_
  · rintro i p ρ e ⟨a, b, rfl⟩
    rw [List.getElem?_map] at e
    cases er : run[i]? with
    | none => rw [er] at e; cases e
    | some r =>
    rw [er] at e
    cases e
    have hl := ldF_len (L := L) (run.take i) (st, List.replicate L.ng 0) h.s (by simp)
    rw [take_snoc er, List.foldl_append]
    generalize (run.take i).foldl (ldS L) (st, List.replicate L.ng 0) = pq at hl ⊢
    obtain ⟨x, y⟩ := pq
    have fit : Fit L r.2 x := ⟨h.n, h.n1, hl.1, h.w r (List.mem_of_getElem? er)⟩
    have m1 := moved_ok (t := t) (t' := t') (t1 := true) (t2 := true) (w := r.1) fit
    have b1 := beat_ok (t := t) (t' := t') (t1 := true) (t2 := true) (w := r.1) fit
    have s1 := signed_ok (w := r.1) (cs := mv L r.2 x r.1) (by simp; omega)
    have s2 := summed_ok (t2 := true) (t3 := true) (a := y) (b := sg (mv L r.2 x r.1) r.1) (by simp [hl.2]) (by simp at hl; omega)
    simp only [sq_t] at m1 b1 s2
    simp_arith only [eq_ww, eq_wf, sq_t, sq_f, ix_sq, len_sq, tuple_sq, list_sq, seq_sq, revI_sq, mg_sq, zipS_sq, zipS_st, zipS_ts, zipB_sq, zipB_st, zipB_ts, eq_fm, eq_fmr, iv_len, wvs_len, isring_ok, bins_ok, gates_ok, behind_ok, ahead_ok, out_ok, rv, m1, b1, s1, s2]
    exact ⟨_, _, rfl⟩
  · rintro ρ ⟨a, b, rfl⟩
    simp_arith only [eq_ww, eq_wf, sq_t, sq_f, ix_sq, len_sq, tuple_sq, list_sq, seq_sq, revI_sq, mg_sq, zipS_sq, zipS_st, zipS_ts, zipB_sq, zipB_st, zipB_ts, eq_fm, eq_fmr, iv_len, wvs_len, isring_ok, bins_ok, gates_ok, behind_ok, ahead_ok, out_ok]
    simp [ld]
/-! beats -/
def bts (L : Ln) (ws : List (Option Int)) (w : Bool) : Nat → List Int → List (List Int)
  | 0, st => [st]
  | n + 1, st => st :: bts L ws w n (bt L ws st w)
def btN (L : Ln) (ws : List (Option Int)) (w : Bool) : Nat → List Int → List Int
  | 0, st => st
  | n + 1, st => btN L ws w n (bt L ws st w)
theorem btN_len {n : Nat} (h : st.length = L.rooms.length) : (btN L ws w n st).length = L.rooms.length := by
  induction n generalizing st with
  | zero => exact h
  | succ n ih => exact ih (by simp)
theorem btN_succ {n : Nat} : btN L ws w (n + 1) st = bt L ws (btN L ws w n st) w := by
  induction n generalizing st with
  | zero => rfl
  | succ n ih => rw [btN, ih]; rfl
theorem bts_eq {n : Nat} : bts L ws w n st = (List.range (n + 1)).map fun i => btN L ws w i st := by
  induction n generalizing st with
  | zero => rfl
  | succ n ih =>
    rw [bts, ih, List.range_succ_eq_map (n := n + 1), List.map_cons, List.map_map]
    rfl
theorem beats_ok {n : Nat} (h : Fit L ws st) (hn : n ≤ 100000) : f_beats [lnv t t' L, sq t1 (wvs ws), sq t2 (iv st), .str (wy w), .int (n : Nat)] = .ok (.lst ((bts L ws w n st).map fun s => .tup (iv s))) := by
  rw [wpP_eq]
  simp_arith only [eq_ww, eq_wf, sq_t, sq_f, ix_sq, len_sq, tuple_sq, list_sq, seq_sq, revI_sq, mg_sq, zipS_sq, zipS_st, zipS_ts, zipB_sq, zipB_st, zipB_ts, eq_fm, eq_fmr, iv_len, wvs_len, isring_ok, bins_ok, gates_ok, behind_ok, ahead_ok, out_ok, f_beats, c_beats]
  have e0 : [PV.tup (iv st)] = (List.range (0 + 1)).map fun i => PV.tup (iv (btN L ws w i st)) := rfl
  rw [e0]
  refine ws_whileInv (fun k ρ => ∃ m, k = n - m ∧ m ≤ n ∧ ρ = [.val (lnv t t' L), .val (sq t1 (wvs ws)), .val (sq t2 (iv st)), .val (.str (wy w)), .val (.int (n : Nat)), .own ((List.range (m + 1)).map fun i => PV.tup (iv (btN L ws w i st)))]) ?_ n _ ⟨0, by omega, by omega, rfl⟩
  rintro k ρ ⟨m, rfl, hm, rfl⟩
  have el : (((List.range (m + 1)).map fun i => PV.tup (iv (btN L ws w i st))).length : Int) = (m : Int) + 1 := by simp
  have al : atI ((List.range (m + 1)).map fun i => PV.tup (iv (btN L ws w i st))) (-1) = some (.tup (iv (btN L ws w m st))) := by
    rw [List.range_succ, List.map_append]
    exact at_last
  have fit : Fit L ws (btN L ws w m st) := ⟨h.n, h.n1, btN_len h.s, h.w⟩
  have b1 := beat_ok (t := t) (t' := t') (t1 := t1) (t2 := true) (w := w) fit
  rw [sq_t] at b1
  by_cases hl : m < n
  · have c1 : ((m : Int) + 1 ≤ (n : Int)) = True := by simp; omega
    simp_arith only [eq_ww, eq_wf, sq_t, sq_f, ix_sq, len_sq, tuple_sq, list_sq, seq_sq, revI_sq, mg_sq, zipS_sq, zipS_st, zipS_ts, zipB_sq, zipB_st, zipB_ts, eq_fm, eq_fmr, iv_len, wvs_len, isring_ok, bins_ok, gates_ok, behind_ok, ahead_ok, out_ok, el, c1, al, b1]
    rw [if_pos (sz _ (by simp; omega))]
    refine ⟨n - (m + 1), by omega, m + 1, rfl, by omega, ?_⟩
    rw [List.range_succ (n := m + 1), List.map_append, ← btN_succ]
    rfl
  · have c1 : ((m : Int) + 1 ≤ (n : Int)) = False := by simp; omega
    have : m = n := by omega
    subst this
    simp_arith only [eq_ww, eq_wf, sq_t, sq_f, ix_sq, len_sq, tuple_sq, list_sq, seq_sq, revI_sq, mg_sq, zipS_sq, zipS_st, zipS_ts, zipB_sq, zipB_st, zipB_ts, eq_fm, eq_fmr, iv_len, wvs_len, isring_ok, bins_ok, gates_ok, behind_ok, ahead_ok, out_ok, el, c1]
    rw [bts_eq, List.map_map]
    rfl
end
/-! told of ints -/
theorem eqv_iv : ∀ a b : List Int, PyData.eqvAll (pvDs (iv a)) (pvDs (iv b)) = decide (a = b) := eqv_ints
theorem okD_iv (n : Nat) (a : List Int) : okD (n + 2) (.tup (iv a)) = true := by simp [okD, iv]
theorem eq_iv (a b : List Int) : pvEq (.tup (iv a)) (.tup (iv b)) = some (.bl (decide (a = b))) := by
  unfold pvEq
  rw [okD_iv 10 a, okD_iv 10 b]
  simp only [pvD, PyData.eqv, eqv_iv]
  rfl
theorem ne_iv (a b : List Int) : pvNe (.tup (iv a)) (.tup (iv b)) = some (.bl (!decide (a = b))) := by
  unfold pvNe
  rw [okD_iv 10 a, okD_iv 10 b]
  simp only [pvD, PyData.eqv, eqv_iv]
  rfl
theorem pl_iv (d : Nat) (l : List Int) (h : l.length ≤ 1000) : Pl (d + 2) (.tup (iv l)) := by
  refine ⟨by simp [iv]; exact Nat.le_of_lt (sz _ (by omega)), fun x hx => ?_⟩
  obtain ⟨n, _, rfl⟩ := List.mem_map.mp hx
  trivial
theorem pl_tup (d : Nat) (l : List PV) (h : l.length ≤ 1000) (hl : ∀ x ∈ l, Pl d x) : Pl (d + 1) (.tup l) := ⟨Nat.le_of_lt (sz _ (by omega)), hl⟩
end Ev

set_option maxHeartbeats 2000000
set_option linter.all false
set_option Elab.async false
set_option maxRecDepth 100000
namespace Ev
open PySem L2
local macro_rules | `(tactic| simp_arith only [$ls,*]) => `(tactic| simp -implicitDefEqProofs only [Nat.reduceSub, Nat.reduceAdd, Int.reduceLT, Int.reduceLE, Int.reduceGT, Int.reduceGE, Int.reduceEq, Int.reducePow, Nat.reducePow, Nat.reduceMul, Int.reduceNeg, Int.reduceToNat, Int.reduceAbs, Int.reduceMod, Int.reduceDiv, Int.reduceAdd, Int.reduceSub, Int.reduceMul, Nat.reduceLT, Nat.reduceLeDiff, Nat.reduceEqDiff, decide_eq_true_eq, decide_true, decide_false, and_true, true_and, true_or, or_true, false_or, or_false, and_false, false_and, if_false, ite_true, ite_false, PV.int.injEq, PV.bl.injEq, exists_eq_left', Bool.not_true, Bool.not_false, Bool.false_eq_true, not_true_eq_false, not_false_eq_true, reduceCtorEq, Option.some.injEq, wp_ok, wp_exc, wp_bad, wo_some, wo_none, wo_if, wo_map, wo_bind, wp_of, ws_nx, ws_rt, ws_rf, ws_bk, ws_ct, ws_exc, ws_bad, wp_name, wp_c, wp_m2, wp_m1, wp_test, wp_truthN, wp_sumN, wp_lenN, wp_ixN, wp_and, wp_or, wp_notT, wp_andV, wp_orV, wp_notV, wp_if, wp_ifF, wp_args0, wp_args1, wp_tup, wp_frz, wp_callB, wp_callF, wp_cat, wp_repL, wp_chain, wp_cut, wp_part0, wp_part1, wp_call, wp_callFr, wp_callBx, wp_popN, wp_index, wp_yes, wp_seqI, wp_range, wp_revI, wp_zip, wp_zipB, wp_zipS, wp_enum, wp_zip3, wp_enZ, wp_callK, wp_callKF, wp_callBxF, wp_cps0, wp_cps1, wp_cpv, wp_cpf, ws_parG, ws_seq, ws_nil, ws_never, ws_pass, ws_ret, ws_retF, ws_retN, ws_set, ws_setF, ws_if, ws_asg, ws_par, ws_par3, ws_parF, ws_aug, ws_append, ws_setIx, ws_reverse, ws_clear, ws_extend, ws_popAt, ws_insert, wp_cmpN, wp_callBr, wpP_runP, wpF_runF, wpB_runB, wpP_ok, wpF_ok, wpP_exc, wpB_ok, ws_for', ws_forNil, wp_comp, wpC_nil, ev_g0, ev_gs, ev_gn, ev_s0, ev_ss, ev_m0, ev_m1, ev_a0, ev_a1, ev_r0, ev_rs, ev_l0, ev_l1, ev_d0, ev_d1, ev_ob, ev_om, ev_it, ev_if, ev_gl, ev_gl1, ev_dl, ev_dl1, ev_gla, ev_dla, add_ii, addI_ii, sub_ii, add_ll, add_tt, mod_ii, div_ii, pow_ii, mul_ii, mul_li, lt_ii, le_ii, gt_ii, ge_ii, neg_i, eq_ii, ne_ii, eq_bb, ne_bb, xor_f, xor_t, eq_str, ne_str, is_bb, isnot_bb, is_n, is_in, is_sn, is_bn, is_tn, is_ln, isnot_n, isnot_in, truth_b, truth_i, truth_l, truth_t, len_l, len_t, len_s, ix_l, ix_t, ix_s, seq_l, seq_t, seq_s, tuple_l, tuple_t, list_l, list_t, list_s, on1_p, abs_i, int_b, int_i, max_ii, min_ii, max1_l, min1_l, rev_l, rev_t, zip_ll, zip_tt, cat_ll, range_1, range_2, slot_0, slot_s, zip3_lll, zip3_llt, zip3_ltl, zip3_ltt, zip3_tll, zip3_tlt, zip3_ttl, zip3_ttt, zipB_ll, zipB_tt, zipB_lt, zipB_tl, zipS_ll, zipS_tt, zipS_lt, zipS_tl, omap_en, enum_l, enum_t, down_l, down_t, down_t0, setAll_0, setAll_1, atom_n, atom_b, atom_i, atom_s, permP_0, permP_1, getD_0, getD_s, isi_int_i, isi_int_b, isi_bool_i, isi_bool_b, isi_tup_t, isi_tup_l, isi_lst_l, isi_lst_t, isi_str_s, isi_str_i, isi_str_b, isi_str_n, isi_lt_l, isi_lt_t, isi_lt_i, isi_lt_b, isi_lt_s, isi_lt_n, at_0, at_1, at_2, at_3, at_last, mg_name, mg_tup, mg_lst, mg_nil, mg_cons, own0_own, startR_eq, wipe_0, wipe_1, back_0, back_1, ixN_3_0, ixN_3_1, ixN_3_2, szl, sze, wp_dict, eq_ints, eq_ww, eq_wf, sq_t, sq_f, ix_sq, len_sq, tuple_sq, list_sq, seq_sq, revI_sq, mg_sq, zipS_sq, zipS_st, zipS_ts, zipB_sq, zipB_st, zipB_ts, eq_fm, eq_fmr, iv_len, wvs_len, isring_ok, bins_ok, gates_ok, behind_ok, ahead_ok, out_ok, eq_iv, ne_iv, $ls,*])
/-! turns -/
abbrev T := Bool × Int
def tv (t : T) : PV := .tup [.str (wy t.1), .int t.2]
theorem ix_tv0 (t : T) : pvIx (tv t) (.int 0) = some (.str (wy t.1)) := rfl
theorem ix_tv1 (t : T) : pvIx (tv t) (.int 1) = some (.int t.2) := rfl
theorem tv_mk (w : Bool) (m : Int) : PV.tup [.str (wy w), .int m] = tv (w, m) := rfl
theorem mg_tv {gs : MGs} {r : Rho} (t : T) : mgTup gs (tv t) r = gs [.str (wy t.1), .int t.2] r := rfl
theorem tuple_tv (t : T) : pvTuple (tv t) = some (tv t) := rfl
/-- the last one first -/
def coll (w : Bool) : Nat → List T → List T
  | 0, l => l
  | n + 1, a :: b :: c :: r => if b.2 ≤ min c.2 a.2 then coll w n ((w, c.2 - b.2 + a.2) :: r) else a :: b :: c :: r
  | _ + 1, l => l
def wtR (l : List T) (t : T) : List T := match l with
  | [] => coll t.1 (l.length + 1) [t]
  | a :: r => if a.1 = t.1 then coll t.1 (l.length + 1) ((t.1, t.2 + a.2) :: r) else coll t.1 (l.length + 1) (t :: a :: r)
def fgR (l : List T) : List T := l.foldl wtR []
def fg (l : List T) : List T := (fgR l).reverse
def tvs (l : List T) : List PV := l.map tv
theorem coll_len (w : Bool) : ∀ (n : Nat) (l : List T), (coll w n l).length ≤ l.length
  | 0, l => by simp [coll]
  | n + 1, [] => by simp [coll]
  | n + 1, [a] => by simp [coll]
  | n + 1, [a, b] => by simp [coll]
  | n + 1, a :: b :: c :: r => by
    rw [coll]
    split
    · have := coll_len w n ((w, c.2 - b.2 + a.2) :: r)
      simp at this ⊢; omega
    · simp
theorem wt_len (l : List T) (t : T) : (wtR l t).length ≤ l.length + 1 := by
  unfold wtR
  split
  · exact coll_len _ _ _
  · split
    · have := coll_len t.1 ((‹T› :: ‹List T›).length + 1) ((t.1, t.2 + (‹T›).2) :: ‹List T›)
      simp at this ⊢; omega
    · have := coll_len t.1 ((‹T› :: ‹List T›).length + 1) (t :: ‹T› :: ‹List T›)
      simp at this ⊢; omega
theorem tvs_rev (a : T) (l : List T) : tvs (a :: l).reverse = tvs l.reverse ++ [tv a] := by simp [tvs]
theorem with_ok (l : List T) (t : T) (hl : l.length ≤ 1000) : f_with_turn [.lst (tvs l.reverse), tv t] = .ok (.lst (tvs (wtR l t).reverse)) := by
  obtain ⟨w, m⟩ := t
  rw [wpP_eq]
  have loop : ∀ (n : Nat) (l : List T) (x1 x2 x3 x4 x5 x6 : Slot) (Q : PV → Prop), l.length ≤ n → n ≤ 1002 → Q (.lst (tvs (coll w n l).reverse)) →
      WpS { nx := fun ρ1 => WpS { nx := fun _ => Q .non, rt := fun p _ => Q p, ex := fun _ _ => False } (mRet (mName 4) ρ1), rt := fun p _ => Q p, ex := fun _ _ => False }
        (mWhile (mAnd (mTest (m2 pvGt (mLenN 4) (mC (.int 2)))) (mTest (m2 pvLe (m2 pvIx (mIxN 4 (m1 pvNeg (mC (.int 2)))) (mC (.int 1))) (mCallB (pvMin) [m2 pvIx (mIxN 4 (m1 pvNeg (mC (.int 3)))) (mC (.int 1)), m2 pvIx (mIxN 4 (m1 pvNeg (mC (.int 1)))) (mC (.int 1))])))) (mSeq (mPar3 5 6 7 [mPopN 4, mPopN 4, mPopN 4]) (mAppend 4 (mTup [mName 2, m2 pvAdd (m2 pvSub (mIxN 7 (mC (.int 1))) (mIxN 6 (mC (.int 1)))) (mIxN 5 (mC (.int 1)))])))
          [x1, x2, .val (.str (wy w)), x3, .own (tvs l.reverse), x4, x5, x6]) := by
    intro n
    induction n with
    | zero =>
      intro l x1 x2 x3 x4 x5 x6 Q hl _ hq
      have : l = [] := List.length_eq_zero_iff.mp (by omega)
      subst this
      rw [ws_whileEq]
      simp_arith only [ix_tv0, ix_tv1, tv_mk, mg_tv, tuple_tv, tvs]
      simpa [coll, tvs] using hq
    | succ n ih =>
      intro l x1 x2 x3 x4 x5 x6 Q hl hn hq
      match l, hl, hq with
      | [], _, hq => rw [ws_whileEq]; simp_arith only [ix_tv0, ix_tv1, tv_mk, mg_tv, tuple_tv, tvs]; simpa [coll, tvs] using hq
      | [a], _, hq => rw [ws_whileEq]; simp_arith only [ix_tv0, ix_tv1, tv_mk, mg_tv, tuple_tv, tvs]; simpa [coll, tvs] using hq
      | [a, b], _, hq => rw [ws_whileEq]; simp_arith only [ix_tv0, ix_tv1, tv_mk, mg_tv, tuple_tv, tvs]; simpa [coll, tvs] using hq
      | a :: b :: c :: r, hl, hq =>
        rw [ws_whileEq]
        have e : tvs (a :: b :: c :: r).reverse = tvs r.reverse ++ [tv c] ++ [tv b] ++ [tv a] := by simp [tvs]
        have hlen : ((2 : Int) < ((tvs r.reverse ++ [tv c] ++ [tv b] ++ [tv a]).length : Int)) = True := by simp [tvs]; omega
        simp_arith only [ix_tv0, ix_tv1, tv_mk, mg_tv, tuple_tv, e, hlen, at_2l, at_3l]
        rw [coll] at hq
        by_cases hc : b.2 ≤ min c.2 a.2
        · rw [if_pos hc] at hq
          have hsz : ((tvs r.reverse).length < sizeLine) = True := by simp only [tvs, List.length_map, List.length_reverse, eq_iff_iff, iff_true]; simp at hl; exact sz _ (by omega)
          simp_arith only [ix_tv0, ix_tv1, tv_mk, mg_tv, tuple_tv, hc, hsz, ← tvs_rev]
          exact ih _ _ _ _ _ _ _ Q (by simp at hl ⊢; omega) (by omega) hq
        · rw [if_neg hc] at hq
          simp_arith only [ix_tv0, ix_tv1, tv_mk, mg_tv, tuple_tv, hc]
          rw [e] at hq
          exact hq
  have hsz : ∀ l' : List T, l'.length ≤ 1000 → ((tvs l').length < sizeLine) = True := fun l' h => by simp only [tvs, List.length_map, eq_iff_iff, iff_true]; exact sz _ (by omega)
  cases l with
  | nil =>
    simp_arith only [ix_tv0, ix_tv1, tv_mk, mg_tv, tuple_tv, f_with_turn, c_with_turn, List.reverse_nil, tvs, List.isEmpty_nil, sz 0 (by decide)]
    exact loop 1 [(w, m)] _ _ _ _ _ _ (fun q => q = .lst (tvs (wtR [] (w, m)).reverse)) (by simp) (by omega) rfl
  | cons a r =>
    have e : tvs (a :: r).reverse = tvs r.reverse ++ [tv a] := tvs_rev a r
    have ne : (tvs r.reverse ++ [tv a]).isEmpty = false := by simp
    have h1 := hsz r.reverse (by simp at hl ⊢; omega)
    have h2 : ((tvs r.reverse ++ [tv a]).length < sizeLine) = True := by rw [← e]; exact hsz _ (by simpa using hl)
    obtain ⟨aw, am⟩ := a
    simp_arith only [ix_tv0, ix_tv1, tv_mk, mg_tv, tuple_tv, f_with_turn, c_with_turn, e, ne]
    by_cases hw : aw = w
    · subst hw
      simp_arith only [ix_tv0, ix_tv1, tv_mk, mg_tv, tuple_tv, beq_self_eq_true, h1, ← tvs_rev]
      refine loop ((aw, am) :: r).length.succ _ _ _ _ _ _ _ (fun q => q = .lst (tvs (wtR ((aw, am) :: r) (aw, m)).reverse)) (by simp) (by simp at hl ⊢; omega) ?_
      simp [wtR]
    · have hb : (aw == w) = false := by simpa using hw
      simp_arith only [ix_tv0, ix_tv1, tv_mk, mg_tv, tuple_tv, hb, h2]
      rw [← tvs_rev, ← tvs_rev]
      refine loop ((aw, am) :: r).length.succ ((w, m) :: (aw, am) :: r) _ _ _ _ _ _ (fun q => q = .lst (tvs (wtR ((aw, am) :: r) (w, m)).reverse)) (by simp) (by simp at hl ⊢; omega) ?_
      simp [wtR, hw]
theorem fold_len (ts l : List T) : (ts.foldl wtR l).length ≤ l.length + ts.length := by
  induction ts generalizing l with
  | nil => simp
  | cons t ts ih =>
    have h1 := ih (wtR l t)
    have h2 := wt_len l t
    simp only [List.foldl_cons, List.length_cons]
    omega
theorem tvs_get (ts : List T) (i : Nat) (p : PV) (h : (tvs ts)[i]? = some p) : ∃ t, ts[i]? = some t ∧ p = tv t := by
  unfold tvs at h
  rw [List.getElem?_map] at h
  cases e : ts[i]? with
  | none => rw [e] at h; cases h
  | some t => rw [e] at h; cases h; exact ⟨t, rfl, rfl⟩
theorem fg_ok (ts : List T) (hl : ts.length ≤ 900) : f_forgotten [.lst (tvs ts)] = .ok (.lst (tvs (fg ts))) := by
  rw [wpP_eq]
  simp_arith only [ix_tv0, ix_tv1, tv_mk, mg_tv, tuple_tv, f_forgotten, c_forgotten]
  refine ws_forInv (fun i ρ => ∃ j, ρ = [.val (.lst (tvs ts)), .val (.lst (tvs (fg (ts.take i)))), j]) ⟨_, rfl⟩ ?_ ?_
  · rintro i p ρ e ⟨j, rfl⟩
    obtain ⟨t, et, rfl⟩ := tvs_get ts i p e
    have hw : f_with_turn [.lst (tvs (fg (ts.take i))), tv t] = .ok (.lst (tvs (fg (ts.take (i + 1))))) := by
      unfold fg
      rw [with_ok _ _ (by have := fold_len (ts.take i) []; simp at this; unfold fgR; omega), take_snoc et]
      simp [fgR]
    simp_arith only [ix_tv0, ix_tv1, tv_mk, mg_tv, tuple_tv, hw]
    exact ⟨_, rfl⟩
  · rintro ρ ⟨j, rfl⟩
    simp_arith only [ix_tv0, ix_tv1, tv_mk, mg_tv, tuple_tv]
    simp [tvs]
/-! all so many times as long -/
def sc (k : Int) (t : T) : T := (t.1, t.2 * k)
theorem coll_sc (k : Int) (hk : 0 < k) (w : Bool) : ∀ (n : Nat) (l : List T), coll w n (l.map (sc k)) = (coll w n l).map (sc k)
  | 0, l => by simp [coll]
  | n + 1, [] => by simp [coll]
  | n + 1, [a] => by simp [coll]
  | n + 1, [a, b] => by simp [coll]
  | n + 1, a :: b :: c :: r => by
    have ih := coll_sc k hk w n ((w, c.2 - b.2 + a.2) :: r)
    have e : (b.2 * k ≤ min (c.2 * k) (a.2 * k)) ↔ b.2 ≤ min c.2 a.2 := by
      rw [Int.le_min, Int.le_min, Int.mul_le_mul_right hk, Int.mul_le_mul_right hk]
    simp only [List.map_cons, coll, sc] at ih ⊢
    by_cases h : b.2 ≤ min c.2 a.2
    · rw [if_pos (e.mpr h), if_pos h, ← ih, ← Int.sub_mul, ← Int.add_mul]
    · rw [if_neg (fun z => h (e.mp z)), if_neg h]
      rfl
theorem wt_sc (k : Int) (hk : 0 < k) (l : List T) (t : T) : wtR (l.map (sc k)) (sc k t) = (wtR l t).map (sc k) := by
  cases l with
  | nil => rfl
  | cons a r =>
    have h1 := coll_sc k hk t.1 ((a :: r).length + 1) ((t.1, t.2 + a.2) :: r)
    have h2 := coll_sc k hk t.1 ((a :: r).length + 1) (t :: a :: r)
    simp only [wtR, List.map_cons, sc, List.length_cons, List.length_map] at h1 h2 ⊢
    split
    · rw [← h1, ← Int.add_mul]
    · rw [← h2]
theorem fold_sc (k : Int) (hk : 0 < k) (ts l : List T) : (ts.map (sc k)).foldl wtR (l.map (sc k)) = (ts.foldl wtR l).map (sc k) := by
  induction ts generalizing l with
  | nil => rfl
  | cons t ts ih => simp only [List.map_cons, List.foldl_cons]; rw [wt_sc k hk, ih]
theorem fg_sc (k : Int) (hk : 0 < k) (ts : List T) : fg (ts.map (sc k)) = (fg ts).map (sc k) := by
  unfold fg fgR
  have h := fold_sc k hk ts []
  rw [List.map_reverse, ← h]; rfl
/-! joined -/
def jnR (l : List T) (t : T) : List T := match l with
  | [] => [t]
  | a :: r => if a.1 = t.1 then (t.1, t.2 + a.2) :: r else t :: a :: r
def jn (l : List T) : List T := (l.foldl jnR []).reverse
theorem jn_len (ts l : List T) : (ts.foldl jnR l).length ≤ l.length + ts.length := by
  induction ts generalizing l with
  | nil => simp
  | cons t ts ih =>
    have h1 := ih (jnR l t)
    have h2 : (jnR l t).length ≤ l.length + 1 := by
      unfold jnR
      split
      · simp
      · split <;> simp
    simp only [List.foldl_cons, List.length_cons]
    omega
theorem tvs_length (l : List T) : (tvs l).length = l.length := by simp [tvs]
theorem jn_ok (ts : List T) (hl : ts.length ≤ 900) : f_joined [.lst (tvs ts)] = .ok (.lst (tvs (jn ts))) := by
  rw [wpP_eq]
  simp_arith only [ix_tv0, ix_tv1, tv_mk, mg_tv, tuple_tv, f_joined, c_joined]
  refine ws_forInv (fun i ρ => ∃ j j2, ρ = [.val (.lst (tvs ts)), .own (tvs ((ts.take i).foldl jnR []).reverse), j, j2]) ⟨_, _, rfl⟩ ?_ ?_
  · rintro i p ρ e ⟨j, j2, rfl⟩
    obtain ⟨t, et, rfl⟩ := tvs_get ts i p e
    have hlen : ((ts.take i).foldl jnR []).length ≤ 900 := by have := jn_len (ts.take i) []; simp at this; omega
    rw [take_snoc et, List.foldl_append]
    generalize (ts.take i).foldl jnR [] = l at hlen ⊢
    cases l with
    | nil =>
      simp_arith only [ix_tv0, ix_tv1, tv_mk, mg_tv, tuple_tv, tvs, List.reverse_nil, List.isEmpty_nil, szl]
      exact ⟨_, _, rfl⟩
    | cons a r =>
      obtain ⟨aw, am⟩ := a
      obtain ⟨w, m⟩ := t
      have ne : (tvs r.reverse ++ [tv (aw, am)]).isEmpty = false := by simp
      have h1 : (tvs r.reverse).length ≤ 1000000 := by simp at hlen; simp [tvs]; omega
      have h2 : (tvs r.reverse ++ [tv (aw, am)]).length ≤ 1000000 := by simp at hlen; simp [tvs]; omega
      simp_arith only [ix_tv0, ix_tv1, tv_mk, mg_tv, tuple_tv, tvs_rev, ne]
      by_cases hw : aw = w
      · subst hw
        simp_arith only [ix_tv0, ix_tv1, tv_mk, mg_tv, tuple_tv, beq_self_eq_true, szl h1]
        rw [← tvs_rev, show List.foldl jnR ((aw, am) :: r) [(aw, m)] = (aw, m + am) :: r by simp [jnR]]
        exact ⟨_, _, rfl⟩
      · have hb : (aw == w) = false := by simpa using hw
        simp_arith only [ix_tv0, ix_tv1, tv_mk, mg_tv, tuple_tv, hb, szl h2]
        rw [← tvs_rev, ← tvs_rev, show List.foldl jnR ((aw, am) :: r) [(w, m)] = (w, m) :: (aw, am) :: r by simp [jnR, hw]]
        exact ⟨_, _, rfl⟩
  · rintro ρ ⟨j, j2, rfl⟩
    simp_arith only [ix_tv0, ix_tv1, tv_mk, mg_tv, tuple_tv]
    simp [jn, tvs]
/-! forgets -/
def gd (l : List T) (i : Nat) : Int := (l.getD i (true, 0)).2
def cnd (l : List T) (i : Nat) : Bool := decide (gd l (i + 1) ≤ min (gd l i) (gd l (i + 2)))
def fgs (l : List T) : List Int := ((List.range (l.length - 2)).filter (cnd l)).map fun i : Nat => (1 + (i : Int))
theorem at_tvs {l : List T} {i : Nat} (h : i < l.length) : atI (tvs l) (i : Int) = some (tv (l.getD i (true, 0))) := by
  rw [at_nat, tvs, List.getElem?_map, List.getElem?_eq_getElem h]
  simp [List.getD, h]
theorem fgs_ok (ts : List T) (hl : ts.length ≤ 900) : f_forgets [.lst (tvs ts)] = .ok (.lst ((fgs (jn ts)).map .int)) := by
  have hj := jn_ok ts hl
  have hlen : (jn ts).length ≤ 900 := by have := jn_len ts []; simp at this; unfold jn; simp; omega
  generalize jn ts = l at hj hlen ⊢
  rw [wpP_eq]
  simp_arith only [ix_tv0, ix_tv1, tv_mk, mg_tv, tuple_tv, f_forgets, c_forgets, hj, tvs_length]
  rw [if_pos (by omega)]
  have hn : ((l.length : Int) - 1 - 1).toNat = l.length - 2 := by omega
  rw [hn]
  refine wpC_inv (fun i acc ρ => ρ = [.val (.lst (tvs ts)), .val (.lst (tvs l)), .emp] ∧ acc = (((List.range i).filter (cnd l)).map fun i : Nat => (1 + (i : Int))).map .int ∧ acc.length ≤ i) ⟨rfl, rfl, by simp⟩ ?_ ?_
  · rintro i p acc ρ e ⟨rfl, rfl, ha⟩
    obtain ⟨hi, rfl⟩ := rangeP_get e
    have a0 : atI (tvs l) (1 + (i : Int)) = some (tv (l.getD (i + 1) (true, 0))) := by rw [show (1 + (i : Int)) = ((i + 1 : Nat) : Int) by omega]; exact at_tvs (by omega)
    have a1 : atI (tvs l) (1 + (i : Int) - 1) = some (tv (l.getD i (true, 0))) := by rw [show (1 + (i : Int) - 1) = ((i : Nat) : Int) by omega]; exact at_tvs (by omega)
    have a2 : atI (tvs l) (1 + (i : Int) + 1) = some (tv (l.getD (i + 2) (true, 0))) := by rw [show (1 + (i : Int) + 1) = ((i + 2 : Nat) : Int) by omega]; exact at_tvs (by omega)
    simp_arith only [ix_tv0, ix_tv1, tv_mk, mg_tv, tuple_tv, a0, a1, a2]
    have hz := szl (Nat.le_trans ha (show i ≤ 1000000 by omega))
    have hcc : ((l.getD (i + 1) (true, 0)).2 ≤ min (l.getD i (true, 0)).2 (l.getD (i + 2) (true, 0)).2) ↔ cnd l i = true := by simp [cnd, gd]
    by_cases hc : cnd l i = true
    · rw [if_pos (hcc.mpr hc), hz]
      refine ⟨trivial, ?_, by simp at ha ⊢; omega⟩
      rw [List.range_succ, List.filter_append]
      simp [hc]
    · rw [if_neg (fun z => hc (hcc.mp z))]
      refine ⟨?_, by omega⟩
      rw [List.range_succ, List.filter_append]
      simp [hc]
  · rintro acc ρ ⟨rfl, rfl, _⟩
    simp [rangeP, fgs]
/-! turns or not -/
theorem in_ww (w : Bool) : pvIn (.str (wy w)) (.tup [.str "forth", .str "back"]) = some (.bl true) := by
  cases w <;> rfl
theorem isi_tv (t : T) : pvIsI [tv t, .ty "tuple"] = some (.bl true) := rfl
theorem len_tv (t : T) : pvLen (tv t) = some (.int 2) := rfl
theorem isturn_ok (t : T) : f_is_turn [tv t] = .ok (.bl (decide (1 ≤ t.2))) := by
  obtain ⟨w, m⟩ := t
  have h : f_is_number [.int m] = .ok (.bl true) := by
    rw [wpP_eq]
    simp_arith only [ix_tv0, ix_tv1, tv_mk, mg_tv, tuple_tv, in_ww, isi_tv, len_tv, f_is_number, c_is_number]
  rw [wpP_eq]
  simp_arith only [ix_tv0, ix_tv1, tv_mk, mg_tv, tuple_tv, in_ww, isi_tv, len_tv, f_is_turn, c_is_turn, h]
theorem isturns_ok (ts : List T) (hl : ts.length ≤ 900) : f_is_turns [.lst (tvs ts)] = .ok (.bl (ts.all fun t => decide (1 ≤ t.2))) := by
  rw [wpP_eq]
  simp_arith only [ix_tv0, ix_tv1, tv_mk, mg_tv, tuple_tv, in_ww, isi_tv, len_tv, f_is_turns, c_is_turns]
  refine wpC_inv (fun i acc ρ => ρ = [.val (.lst (tvs ts)), .emp] ∧ acc = (ts.take i).map fun t => .bl (decide (1 ≤ t.2))) ⟨rfl, rfl⟩ ?_ ?_
  · rintro i p acc ρ e ⟨rfl, rfl⟩
    obtain ⟨t, et, rfl⟩ := tvs_get ts i p e
    simp_arith only [ix_tv0, ix_tv1, tv_mk, mg_tv, tuple_tv, in_ww, isi_tv, len_tv, isturn_ok]
    refine ⟨sz _ (by simp; omega), ?_⟩
    rw [take_snoc et]; simp
  · rintro acc ρ ⟨rfl, rfl⟩
    simp_arith only [ix_tv0, ix_tv1, tv_mk, mg_tv, tuple_tv, in_ww, isi_tv, len_tv, pvAll, bls_map (fun t : T => decide (1 ≤ t.2))]
    simp [tvs]
theorem eqv_tvs : ∀ a b : List T, PyData.eqvAll (pvDs (tvs a)) (pvDs (tvs b)) = decide (a = b)
  | [], [] => rfl
  | [], y :: b => rfl
  | x :: a, [] => rfl
  | (w, m) :: a, (v, n) :: b => by
    have ih := eqv_tvs a b
    simp only [tvs, List.map_cons, pvDs, tv, pvD, PyData.eqvAll, PyData.eqv] at ih ⊢
    rw [ih, wy_eq]
    rw [Bool.eq_iff_iff]
    simp
theorem okD_tvs (n : Nat) (a : List T) : okD (n + 3) (.lst (tvs a)) = true := by
  simp [okD, tvs, tv, wy_ok]
theorem eq_tvs (a b : List T) : pvEq (.lst (tvs a)) (.lst (tvs b)) = some (.bl (decide (a = b))) := by
  unfold pvEq
  rw [okD_tvs 9 a, okD_tvs 9 b]
  simp only [pvD, PyData.eqv, eqv_tvs]
  rfl
theorem isfg_ok (ts : List T) (hl : ts.length ≤ 900) (h1 : ∀ t ∈ ts, 1 ≤ t.2) : f_is_forgotten [.lst (tvs ts)] = .ok (.bl (decide (fg ts = ts))) := by
  have h : (ts.all fun t => decide (1 ≤ t.2)) = true := by simpa using h1
  rw [wpP_eq]
  simp_arith only [ix_tv0, ix_tv1, tv_mk, mg_tv, tuple_tv, in_ww, isi_tv, len_tv, eq_tvs, f_is_forgotten, c_is_forgotten, isturns_ok ts hl, h, fg_ok ts hl]
/-! so often -/
def soF : Nat → Nat → List T → List T → List T
  | 0, _, found, _ => found
  | n + 1, many, found, twice => if 0 < many then soF n (many / 2) (if many % 2 = 1 then fg (found ++ twice) else found) (if 0 < many / 2 then fg (twice ++ twice) else twice) else found
def so (ts : List T) (many : Nat) : List T := soF 60 many [] (fg ts)
/-- short all the way -/
def soS : Nat → Nat → List T → List T → Bool
  | 0, many, found, twice => decide (many = 0)
  | n + 1, many, found, twice => decide (found.length ≤ 200) && decide (twice.length ≤ 200) && if 0 < many then soS n (many / 2) (if many % 2 = 1 then fg (found ++ twice) else found) (if 0 < many / 2 then fg (twice ++ twice) else twice) else true
theorem tvs_app (a b : List T) : tvs a ++ tvs b = tvs (a ++ b) := by simp [tvs]
theorem so_loop (D : PR) : ∀ (n many : Nat) (found twice : List T) (x0 : Slot), soS n many found twice = true → (∀ m tw, D.nx [x0, .val (.int m), .val (.lst (tvs (soF n many found twice))), .val (.lst (tvs tw))]) →
    WpS D (mWhile (mTest (m2 pvGt (mName 1) (mC (.int 0)))) (mSeq (mIfS (mTest (m2 pvEq (m2 pvMod (mName 1) (mC (.int 2))) (mC (.int 1)))) (mSet 2 (mCall f_forgotten [m2 pvAdd (mName 2) (mName 3)])) (mNil)) (mSeq (mAug 1 pvDiv (mC (.int 2))) (mIfS (mTest (m2 pvGt (mName 1) (mC (.int 0)))) (mSet 3 (mCall f_forgotten [m2 pvAdd (mName 3) (mName 3)])) (mNil)))) [x0, .val (.int (many : Nat)), .val (.lst (tvs found)), .val (.lst (tvs twice))])
  | 0, many, found, twice, x0, hs, hq => by
    have : many = 0 := by simpa [soS] using hs
    subst this
    rw [ws_whileEq]
    simp_arith only [ix_tv0, ix_tv1, tv_mk, mg_tv, tuple_tv, in_ww, isi_tv, len_tv, eq_tvs, Int.ofNat_zero, Int.natCast_zero, Int.lt_irrefl]
    exact hq _ _
  | n + 1, many, found, twice, x0, hs, hq => by
    rw [ws_whileEq]
    simp only [soS, Bool.and_eq_true, decide_eq_true_eq] at hs
    obtain ⟨⟨l1, l2⟩, hs⟩ := hs
    rw [soF] at hq
    by_cases h : 0 < many
    · rw [if_pos h] at hs
      simp only [if_pos h] at hq
      have h' : ((0 : Int) < (many : Int)) = True := by simp; omega
      have hd : (many : Int) / 2 = ((many / 2 : Nat) : Int) := by omega
      have f1 : f_forgotten [.lst (tvs (found ++ twice))] = .ok (.lst (tvs (fg (found ++ twice)))) := fg_ok _ (by simp; omega)
      have f2 : f_forgotten [.lst (tvs (twice ++ twice))] = .ok (.lst (tvs (fg (twice ++ twice)))) := fg_ok _ (by simp; omega)
      have z1 : ((tvs found).length + (tvs twice).length ≤ sizeLine) = True := sze (by simp [tvs]; omega)
      have z2 : ((tvs twice).length + (tvs twice).length ≤ sizeLine) = True := sze (by simp [tvs]; omega)
      by_cases ho : many % 2 = 1
      · have ho' : ((many : Int) % 2 = 1) = True := by simp; omega
        simp only [if_pos ho] at hs hq
        by_cases h2 : 0 < many / 2
        · have h2' : ((0 : Int) < ((many / 2 : Nat) : Int)) = True := by simp; omega
          simp only [if_pos h2] at hs hq
          simp_arith only [ix_tv0, ix_tv1, tv_mk, mg_tv, tuple_tv, in_ww, isi_tv, len_tv, eq_tvs, h', ho', hd, h2', z1, z2, tvs_app, f1, f2]
          exact so_loop D n _ _ _ x0 hs hq
        · have h2' : ((0 : Int) < ((many / 2 : Nat) : Int)) = False := by simp; omega
          simp only [if_neg h2] at hs hq
          simp_arith only [ix_tv0, ix_tv1, tv_mk, mg_tv, tuple_tv, in_ww, isi_tv, len_tv, eq_tvs, h', ho', hd, h2', z1, z2, tvs_app, f1, f2]
          exact so_loop D n _ _ _ x0 hs hq
      · have ho' : ((many : Int) % 2 = 1) = False := by simp; omega
        simp only [if_neg ho] at hs hq
        by_cases h2 : 0 < many / 2
        · have h2' : ((0 : Int) < ((many / 2 : Nat) : Int)) = True := by simp; omega
          simp only [if_pos h2] at hs hq
          simp_arith only [ix_tv0, ix_tv1, tv_mk, mg_tv, tuple_tv, in_ww, isi_tv, len_tv, eq_tvs, h', ho', hd, h2', z1, z2, tvs_app, f1, f2]
          exact so_loop D n _ _ _ x0 hs hq
        · have h2' : ((0 : Int) < ((many / 2 : Nat) : Int)) = False := by simp; omega
          simp only [if_neg h2] at hs hq
          simp_arith only [ix_tv0, ix_tv1, tv_mk, mg_tv, tuple_tv, in_ww, isi_tv, len_tv, eq_tvs, h', ho', hd, h2', z1, z2, tvs_app, f1, f2]
          exact so_loop D n _ _ _ x0 hs hq
    · have h' : ((0 : Int) < (many : Int)) = False := by simp; omega
      simp only [if_neg h] at hq
      simp_arith only [ix_tv0, ix_tv1, tv_mk, mg_tv, tuple_tv, in_ww, isi_tv, len_tv, eq_tvs, h']
      exact hq _ _
theorem so_ok (ts : List T) (many : Nat) (hl : ts.length ≤ 900) (hs : soS 60 many [] (fg ts) = true) : f_so_often [.lst (tvs ts), .int many] = .ok (.lst (tvs (so ts many))) := by
  rw [wpP_eq]
  simp_arith only [ix_tv0, ix_tv1, tv_mk, mg_tv, tuple_tv, in_ww, isi_tv, len_tv, eq_tvs, f_so_often, c_so_often, fg_ok ts hl]
  refine so_loop _ 60 many [] (fg ts) _ hs fun m tw => ?_
  simp_arith only [ix_tv0, ix_tv1, tv_mk, mg_tv, tuple_tv, in_ww, isi_tv, len_tv, eq_tvs]
  rfl
theorem soF_sc (k : Int) (hk : 0 < k) : ∀ (n many : Nat) (found twice : List T), soF n many (found.map (sc k)) (twice.map (sc k)) = (soF n many found twice).map (sc k)
  | 0, _, _, _ => rfl
  | n + 1, many, found, twice => by
    have ih := soF_sc k hk n
    by_cases h0 : 0 < many <;> by_cases h1 : many % 2 = 1 <;> by_cases h2 : 0 < many / 2 <;> simp only [soF, h0, h1, h2, if_true, if_false, ← List.map_append, fg_sc k hk, ih]
theorem soS_sc (k : Int) (hk : 0 < k) : ∀ (n many : Nat) (found twice : List T), soS n many (found.map (sc k)) (twice.map (sc k)) = soS n many found twice
  | 0, _, _, _ => rfl
  | n + 1, many, found, twice => by
    have ih := soS_sc k hk n
    by_cases h0 : 0 < many <;> by_cases h1 : many % 2 = 1 <;> by_cases h2 : 0 < many / 2 <;> simp only [soS, h0, h1, h2, if_true, if_false, ← List.map_append, fg_sc k hk, ih, List.length_map]
/-! joined, places: so many times as long -/
theorem jnR_sc (k : Int) (l : List T) (t : T) : jnR (l.map (sc k)) (sc k t) = (jnR l t).map (sc k) := by
  cases l with
  | nil => rfl
  | cons a r =>
    by_cases h : a.1 = t.1
    · simp [jnR, sc, h, Int.add_mul]
    · simp [jnR, sc, h]
theorem jnF_sc (k : Int) (ts l : List T) : (ts.map (sc k)).foldl jnR (l.map (sc k)) = (ts.foldl jnR l).map (sc k) := by
  induction ts generalizing l with
  | nil => rfl
  | cons t ts ih => simp only [List.map_cons, List.foldl_cons]; rw [jnR_sc k, ih]
theorem jn_sc (k : Int) (ts : List T) : jn (ts.map (sc k)) = (jn ts).map (sc k) := by
  unfold jn
  have h := jnF_sc k ts []
  rw [List.map_reverse, ← h]; rfl
theorem gd_sc (k : Int) (l : List T) (i : Nat) : gd (l.map (sc k)) i = gd l i * k := by
  unfold gd
  simp only [List.getD, List.getElem?_map]
  cases l[i]? <;> simp [sc]
theorem cnd_sc (k : Int) (hk : 0 < k) (l : List T) (i : Nat) : cnd (l.map (sc k)) i = cnd l i := by
  unfold cnd
  rw [gd_sc, gd_sc, gd_sc]
  have e : (gd l (i + 1) * k ≤ min (gd l i * k) (gd l (i + 2) * k)) ↔ gd l (i + 1) ≤ min (gd l i) (gd l (i + 2)) := by
    rw [Int.le_min, Int.le_min, Int.mul_le_mul_right hk, Int.mul_le_mul_right hk]
  simp only [e]
theorem fgs_sc (k : Int) (hk : 0 < k) (l : List T) : fgs (l.map (sc k)) = fgs l := by
  unfold fgs
  rw [List.length_map]
  congr 1
  apply List.filter_congr
  intro i _
  exact cnd_sc k hk l i
theorem sc_inj (k : Int) (hk : 0 < k) (a b : List T) : a.map (sc k) = b.map (sc k) ↔ a = b := by
  refine ⟨fun h => ?_, fun h => by rw [h]⟩
  refine (List.map_inj_right ?_).mp h
  rintro ⟨x, m⟩ ⟨y, n⟩ e
  simp only [sc, Prod.mk.injEq] at e ⊢
  exact ⟨e.1, Int.eq_of_mul_eq_mul_right (by omega) e.2⟩
theorem pl_tv (d : Nat) (t : T) : Pl (d + 2) (tv t) := by
  refine ⟨by simp; exact Nat.le_of_lt (sz _ (by omega)), fun x hx => ?_⟩
  simp at hx
  rcases hx with rfl | rfl
  · exact wy_ok _
  · trivial
theorem pl_tvs (d : Nat) (l : List T) (h : l.length ≤ 1000) : Pl (d + 3) (.lst (tvs l)) := by
  refine ⟨by simp [tvs]; exact Nat.le_of_lt (sz _ (by omega)), fun x hx => ?_⟩
  obtain ⟨n, _, rfl⟩ := List.mem_map.mp hx
  exact pl_tv _ _
theorem map_all {k : Int} (hk : 0 < k) (l : List T) (h : (l.all fun t => decide (1 ≤ t.2)) = true) : ∀ t ∈ l.map (sc k), 1 ≤ t.2 := by
  intro t ht
  obtain ⟨u, hu, rfl⟩ := List.mem_map.mp ht
  have := List.all_eq_true.mp h u hu
  simp at this
  show 1 ≤ u.2 * k
  exact Int.le_trans (by omega : (1 : Int) ≤ 1 * k) (Int.mul_le_mul_of_nonneg_right this (by omega))
theorem dix_w (w : Bool) : pvDix (.dic [.inr "forth", .inr "back"] [.str "back", .str "forth"]) (.str (wy w)) = some (.str (wy (!w))) := by
  cases w <;> rfl
theorem pl_tvss (d : Nat) (l : List (List T)) (h : l.length ≤ 1000) (hl : ∀ x ∈ l, x.length ≤ 1000) : Pl (d + 4) (.lst (l.map fun x => .lst (tvs x))) := by
  refine pl_lst (d + 3) _ (by simpa using h) fun x hx => ?_
  obtain ⟨y, hy, rfl⟩ := List.mem_map.mp hx
  exact pl_tvs d y (hl y hy)
end Ev

set_option maxHeartbeats 2000000
set_option linter.all false
set_option Elab.async false
set_option maxRecDepth 100000
namespace Ev
open PySem L2
local macro_rules | `(tactic| simp_arith only [$ls,*]) => `(tactic| simp -implicitDefEqProofs only [Nat.reduceSub, Nat.reduceAdd, Int.reduceLT, Int.reduceLE, Int.reduceGT, Int.reduceGE, Int.reduceEq, Int.reducePow, Nat.reducePow, Nat.reduceMul, Int.reduceNeg, Int.reduceToNat, Int.reduceAbs, Int.reduceMod, Int.reduceDiv, Int.reduceAdd, Int.reduceSub, Int.reduceMul, Nat.reduceLT, Nat.reduceLeDiff, Nat.reduceEqDiff, decide_eq_true_eq, decide_true, decide_false, and_true, true_and, true_or, or_true, false_or, or_false, and_false, false_and, if_false, ite_true, ite_false, PV.int.injEq, PV.bl.injEq, exists_eq_left', Bool.not_true, Bool.not_false, Bool.false_eq_true, not_true_eq_false, not_false_eq_true, reduceCtorEq, Option.some.injEq, wp_ok, wp_exc, wp_bad, wo_some, wo_none, wo_if, wo_map, wo_bind, wp_of, ws_nx, ws_rt, ws_rf, ws_bk, ws_ct, ws_exc, ws_bad, wp_name, wp_c, wp_m2, wp_m1, wp_test, wp_truthN, wp_sumN, wp_lenN, wp_ixN, wp_and, wp_or, wp_notT, wp_andV, wp_orV, wp_notV, wp_if, wp_ifF, wp_args0, wp_args1, wp_tup, wp_frz, wp_callB, wp_callF, wp_cat, wp_repL, wp_chain, wp_cut, wp_part0, wp_part1, wp_call, wp_callFr, wp_callBx, wp_popN, wp_index, wp_yes, wp_seqI, wp_range, wp_revI, wp_zip, wp_zipB, wp_zipS, wp_enum, wp_zip3, wp_enZ, wp_callK, wp_callKF, wp_callBxF, wp_cps0, wp_cps1, wp_cpv, wp_cpf, ws_parG, ws_seq, ws_nil, ws_never, ws_pass, ws_ret, ws_retF, ws_retN, ws_set, ws_setF, ws_if, ws_asg, ws_par, ws_par3, ws_parF, ws_aug, ws_append, ws_setIx, ws_reverse, ws_clear, ws_extend, ws_popAt, ws_insert, wp_cmpN, wp_callBr, wpP_runP, wpF_runF, wpB_runB, wpP_ok, wpF_ok, wpP_exc, wpB_ok, ws_for', ws_forNil, wp_comp, wpC_nil, ev_g0, ev_gs, ev_gn, ev_s0, ev_ss, ev_m0, ev_m1, ev_a0, ev_a1, ev_r0, ev_rs, ev_l0, ev_l1, ev_d0, ev_d1, ev_ob, ev_om, ev_it, ev_if, ev_gl, ev_gl1, ev_dl, ev_dl1, ev_gla, ev_dla, add_ii, addI_ii, sub_ii, add_ll, add_tt, mod_ii, div_ii, pow_ii, mul_ii, mul_li, lt_ii, le_ii, gt_ii, ge_ii, neg_i, eq_ii, ne_ii, eq_bb, ne_bb, xor_f, xor_t, eq_str, ne_str, is_bb, isnot_bb, is_n, is_in, is_sn, is_bn, is_tn, is_ln, isnot_n, isnot_in, truth_b, truth_i, truth_l, truth_t, len_l, len_t, len_s, ix_l, ix_t, ix_s, seq_l, seq_t, seq_s, tuple_l, tuple_t, list_l, list_t, list_s, on1_p, abs_i, int_b, int_i, max_ii, min_ii, max1_l, min1_l, rev_l, rev_t, zip_ll, zip_tt, cat_ll, range_1, range_2, slot_0, slot_s, zip3_lll, zip3_llt, zip3_ltl, zip3_ltt, zip3_tll, zip3_tlt, zip3_ttl, zip3_ttt, zipB_ll, zipB_tt, zipB_lt, zipB_tl, zipS_ll, zipS_tt, zipS_lt, zipS_tl, omap_en, enum_l, enum_t, down_l, down_t, down_t0, setAll_0, setAll_1, atom_n, atom_b, atom_i, atom_s, permP_0, permP_1, getD_0, getD_s, isi_int_i, isi_int_b, isi_bool_i, isi_bool_b, isi_tup_t, isi_tup_l, isi_lst_l, isi_lst_t, isi_str_s, isi_str_i, isi_str_b, isi_str_n, isi_lt_l, isi_lt_t, isi_lt_i, isi_lt_b, isi_lt_s, isi_lt_n, at_0, at_1, at_2, at_3, at_last, mg_name, mg_tup, mg_lst, mg_nil, mg_cons, own0_own, startR_eq, wipe_0, wipe_1, back_0, back_1, ixN_3_0, ixN_3_1, ixN_3_2, szl, sze, wp_dict, eq_ints, eq_ww, eq_wf, sq_t, sq_f, ix_sq, len_sq, tuple_sq, list_sq, seq_sq, revI_sq, mg_sq, zipS_sq, zipS_st, zipS_ts, zipB_sq, zipB_st, zipB_ts, eq_fm, eq_fmr, iv_len, wvs_len, isring_ok, bins_ok, gates_ok, behind_ok, ahead_ok, out_ok, eq_iv, ne_iv, $ls,*])
/-! drawn lines -/
theorem at_mem {α : Type} {l : List α} {r : Int} (h0 : 0 ≤ r) (h1 : r < l.length) : ∃ x, x ∈ l ∧ atI l r = some x := by
  obtain ⟨m, rfl⟩ := Int.eq_ofNat_of_zero_le h0
  have hm : m < l.length := by omega
  exact ⟨l[m], List.getElem_mem hm, by rw [at_nat, List.getElem?_eq_getElem hm]⟩
/-- a comprehension whose items draw: each draws K times at most -/
theorem wpC_drawG {QA : List PV → Rho → Prop} {g : MG} {e : M} {ws : List Nat} (mk : List PV → Rho) {ps : List PV} {xs0 : List PV} {m0 : Nat} (S : PV → PV → Prop) (K : Nat) (hb : Box m0 xs0) (hl : ps.length ≤ 1000000)
    (hs : ∀ p, p ∈ ps → ∀ m xs, m ≤ m0 + K * ps.length → Box m xs → WpO (fun ρ1 => WpE (fun y ρ3 => S p y ∧ ∃ ys, wipeR ρ3 ws = mk ys ∧ Box (m + K) ys) (fun _ _ => False) (e ρ1)) (g p (mk xs)))
    (he : ∀ ys zs, Box (m0 + K * ps.length) ys → zs.length = ps.length → (∀ (i : Nat) p, ps[i]? = some p → ∃ z, zs[i]? = some z ∧ S p z) → QA zs (mk ys)) : WpC QA (compL g mYes e ws ps [] (mk xs0)) := by
  refine wpC_inv (fun i acc ρ' => i ≤ ps.length → acc.length = i ∧ (∃ ys, ρ' = mk ys ∧ Box (m0 + K * i) ys) ∧ ∀ (j : Nat) p, j < i → ps[j]? = some p → ∃ z, acc[j]? = some z ∧ S p z) (fun _ => ⟨rfl, ⟨xs0, rfl, by simpa using hb⟩, fun j p h => by omega⟩) ?_ ?_
  · rintro i p acc ρ' ei h
    have hi : i < ps.length := by
      by_cases z : i < ps.length
      · exact z
      · rw [List.getElem?_eq_none (by omega)] at ei; cases ei
    obtain ⟨ha, ⟨ys, rfl, hy⟩, hz⟩ := h (by omega)
    have hKi : K * i ≤ K * ps.length := Nat.mul_le_mul_left _ (by omega)
    have h1 := hs p (List.mem_of_getElem? ei) _ ys (by omega) hy
    cases hg : g p (mk ys) with
    | none => rw [hg] at h1; exact h1.elim
    | some ρ0 =>
    rw [hg] at h1
    simp only [wo_some, wp_yes, if_true] at h1 ⊢
    refine h1.mono (fun y ρ3 q => ?_) fun _ _ z => z
    obtain ⟨sy, us, e3, hu⟩ := q
    refine ⟨sz _ (by omega), fun _ => ⟨by simp [ha], ⟨us, e3, by rw [Nat.mul_add, Nat.mul_one, ← Nat.add_assoc]; exact hu⟩, fun j q hj hq => ?_⟩⟩
    by_cases hji : j < i
    · obtain ⟨z, e1, e2⟩ := hz j q hji hq
      exact ⟨z, by rw [List.getElem?_append_left (by omega)]; exact e1, e2⟩
    · have : j = i := by omega
      subst this
      rw [ei] at hq
      cases hq
      exact ⟨y, by rw [List.getElem?_append_right (by omega)]; simp [ha], sy⟩
  · intro acc ρ' h
    obtain ⟨ha, ⟨ys, rfl, hy⟩, hz⟩ := h (Nat.le_refl _)
    refine he ys acc hy ha fun i p hp => ?_
    have hi : i < ps.length := by
      by_cases z : i < ps.length
      · exact z
      · rw [List.getElem?_eq_none (by omega)] at hp; cases hp
    exact hz i p hi hp
theorem wpC_draw {QA : List PV → Rho → Prop} {g : MG} {e : M} {ws : List Nat} {ρr : Rho} {ps : List PV} {xs0 : List PV} {m0 : Nat} (S : PV → PV → Prop) (K : Nat) (hb : Box m0 xs0) (hl : ps.length ≤ 1000000)
    (hs : ∀ p, p ∈ ps → ∀ m xs, m ≤ m0 + K * ps.length → Box m xs → WpO (fun ρ1 => WpE (fun y ρ3 => S p y ∧ ∃ ys, wipeR ρ3 ws = .own ys :: ρr ∧ Box (m + K) ys) (fun _ _ => False) (e ρ1)) (g p (.own xs :: ρr)))
    (he : ∀ ys zs, Box (m0 + K * ps.length) ys → zs.length = ps.length → (∀ (i : Nat) p, ps[i]? = some p → ∃ z, zs[i]? = some z ∧ S p z) → QA zs (.own ys :: ρr)) : WpC QA (compL g mYes e ws ps [] (.own xs0 :: ρr)) :=
  wpC_drawG (fun xs => .own xs :: ρr) S K hb hl hs he
theorem all_true {zs : List PV} (h : ∀ z ∈ zs, z = .bl true) : pvAll (.lst zs) = some (.bl true) := by
  have e : zs = (List.replicate zs.length true).map fun b => PV.bl b := by
    simp only [List.map_replicate]
    exact List.eq_replicate_of_mem h
  rw [e]
  show (blsP _).map _ = _
  rw [bls_map (fun b => b)]
  simp
/-- the law's own way: as many rounds for each of up to three numbers -/
theorem law_std (fr : FB) (m K : Nat) (hm : m ≤ 100) (hK : K ≤ 1000000) (hr : ∀ n xs, Box n xs → n < 2 ^ 38 → WpB (fun p ys => p = .bl true ∧ Box (n + K) ys) (fun _ _ => False) (fr xs [])) (ns : List Int) (hl : ns.length ≤ 63) :
    runP ["_law_script", "_law_k", "_law_box_here", "_law_turn"] (mSeq (mFor (mRange [mCallB (pvMax) [mC (.int 1), mCallB (pvMin) [mC (.int 3), mLenN 0]]]) (mgName 1) (mSeq (mSetF 2 (mCallFr f__law_box [mName 0, mName 1])) (mIfS (mNotT (mTest (mCallB (on1 pvAll) [mFrz (mComp (mRange [mC (.int (m : Nat))]) (mgName 3) (mYes) (mCallBx fr 2 []) [3])]))) (mRet (mC (.bl false))) (mNil)))) (mRet (mC (.bl true)))) [.scr ns] = .ok (.bl true) := by
  rw [wpP_eq]
  simp_arith only []
  rw [if_pos (by omega)]
  refine ws_forInv (fun i ρ => ∃ a b c, ρ = [.val (.scr ns), a, b, c]) ⟨_, _, _, rfl⟩ ?_ ?_
  · rintro i p ρ e ⟨a, b, c, rfl⟩
    obtain ⟨hi, rfl⟩ := rangeP_get e
    have hi' : i < 100 := by omega
    simp_arith only [Int.zero_add]
    refine (box_ok hi').use fun xs hx => ?_
    simp_arith only []
    rw [if_pos (by omega)]
    simp only [Int.toNat_natCast]
    have hlen : (rangeP 0 m).length = m := by simp [rangeP]
    have hKm : K * m ≤ 1000000 * 100 := Nat.mul_le_mul hK hm
    refine wpC_drawG (fun xs => [.val (.scr ns), .val (.int i), .own xs, .emp]) (fun _ y => y = .bl true) K hx (by omega) (fun p hp m xs hm hx => ?_) (fun ys zs hy hl hz => ?_)
    · rw [hlen] at hm
      simp_arith only []
      refine (hr m xs hx (by omega)).use fun p ys hp => ?_
      obtain ⟨rfl, hb⟩ := hp
      simp_arith only []
      exact ⟨_, rfl, hb⟩
    · have ha : pvAll (.lst zs) = some (.bl true) := all_true fun z hz' => by
        obtain ⟨j, hj⟩ := List.mem_iff_getElem?.mp hz'
        have hj' : j < (rangeP 0 m).length := by
          rw [← hl]
          by_cases q : j < zs.length
          · exact q
          · rw [List.getElem?_eq_none (by omega)] at hj; cases hj
        obtain ⟨z', e1, e2⟩ := hz j _ (List.getElem?_eq_getElem hj')
        rw [hj] at e1
        cases e1
        exact e2
      simp_arith only [ha]
      exact ⟨_, _, _, rfl⟩
  · rintro ρ ⟨a, b, c, rfl⟩
    simp_arith only []
theorem wide_ok {n : Nat} {xs : List PV} {b : Int} (hx : Box n xs) (hn : n + 10 < 2 ^ 40) (h0 : 0 < b) : WpB (fun p ys => ∃ r, p = .int r ∧ 0 ≤ r ∧ r < b ∧ Box (n + 2) ys) (fun _ _ => False) (f__law_wide xs [.int b]) := by
  simp_arith only [f__law_wide, c__law_wide]
  refine (take_ok hx (by omega) (by omega) (by omega)).use fun p ys hp => ?_
  obtain ⟨r, rfl, r0, r1, hb⟩ := hp
  simp_arith only []
  refine (take_ok hb (by omega) (by omega) (by omega)).use fun p ys hp => ?_
  obtain ⟨q, rfl, q0, q1, hb2⟩ := hp
  simp_arith only [h0]
  exact ⟨Int.emod_nonneg _ (by omega), Int.emod_lt_of_pos _ h0, hb2⟩
/-- ints told one by one -/
theorem ints_of {zs : List PV} {P : Nat → Int → Prop} {n : Nat} (hl : zs.length = n) (h : ∀ i, i < n → ∃ v, zs[i]? = some (.int v) ∧ P i v) : ∃ l : List Int, zs = iv l ∧ l.length = n ∧ ∀ i, i < n → P i (l.getD i 0) := by
  induction n generalizing zs P with
  | zero => exact ⟨[], by simp [iv, List.length_eq_zero_iff.mp hl], rfl, fun i h => by omega⟩
  | succ n ih =>
    match zs, hl with
    | z :: zs, hl =>
    obtain ⟨v, e, pv⟩ := h 0 (by omega)
    simp at e
    subst e
    obtain ⟨l, e, hl', hp⟩ := ih (zs := zs) (P := fun i => P (i + 1)) (by simpa using hl) (fun i hi => by simpa using h (i + 1) (by omega))
    refine ⟨v :: l, by simp [iv] at e ⊢; exact e, by simp [hl'], fun i hi => ?_⟩
    cases i with
    | zero => exact pv
    | succ i => simpa using hp i (by omega)
theorem ws_of' {zs : List PV} {P : Option Int → Prop} {n : Nat} (hl : zs.length = n) (h : ∀ i, i < n → ∃ v, zs[i]? = some (wv v) ∧ P v) : ∃ l : List (Option Int), zs = wvs l ∧ l.length = n ∧ ∀ v ∈ l, P v := by
  induction n generalizing zs with
  | zero => exact ⟨[], by simp [wvs, List.length_eq_zero_iff.mp hl], rfl, fun v h => by simp at h⟩
  | succ n ih =>
    match zs, hl with
    | z :: zs, hl =>
    obtain ⟨v, e, pv⟩ := h 0 (by omega)
    simp at e
    subst e
    obtain ⟨l, e, hl', hp⟩ := ih (zs := zs) (by simpa using hl) (fun i hi => by simpa using h (i + 1) (by omega))
    refine ⟨v :: l, by simp [wvs] at e ⊢; exact e, by simp [hl'], fun u hu => ?_⟩
    rcases List.mem_cons.mp hu with rfl | hu
    · exact pv
    · exact hp u hu
/-- a line's rooms, a ring of two at least -/
structure LOk (m : Nat) (L : Ln) : Prop where
  n : 0 < L.rooms.length
  le : L.rooms.length ≤ m
  rg : L.ring = true → 2 ≤ L.rooms.length
  rm : ∀ j, j < L.rooms.length → 1 ≤ L.rooms.getD j 0 ∧ L.rooms.getD j 0 ≤ 1000000000
def SOk (L : Ln) (st : List Int) : Prop := st.length = L.rooms.length ∧ ∀ j, j < L.rooms.length → 0 ≤ st.getD j 0 ∧ st.getD j 0 ≤ L.rooms.getD j 0
def WOk (L : Ln) (ws : List (Option Int)) : Prop := ws.length = L.ng ∧ ∀ v ∈ ws, ∀ x, v = some x → 0 ≤ x ∧ x ≤ 1000000000
theorem LOk.g2 {m : Nat} {L : Ln} (h : LOk m L) : 2 ≤ L.ng := by
  have := h.n
  unfold Ln.ng
  split
  · exact h.rg (by assumption)
  · omega
theorem LOk.fit {m : Nat} {L : Ln} {ws : List (Option Int)} {st : List Int} (h : LOk m L) (hm : m ≤ 900) (hw : WOk L ws) (hs : SOk L st) : Fit L ws st := ⟨h.n, Nat.le_trans h.le hm, hs.1, hw.1⟩
theorem LOk.fitR {m : Nat} {L : Ln} {st : List Int} {run : List Bt} (h : LOk m L) (hm : m ≤ 900) (hs : st.length = L.rooms.length) (hr : ∀ r ∈ run, r.2.length = L.ng) : FitR L st run := ⟨h.n, Nat.le_trans h.le hm, h.g2, hs, hr⟩
theorem LOk.mono {m m' : Nat} {L : Ln} (h : LOk m L) (hm : m ≤ m') : LOk m' L := ⟨h.n, Nat.le_trans h.le hm, h.rg, h.rm⟩
theorem line_ok {n m : Nat} {xs : List PV} (hx : Box n xs) (hn : n < 2 ^ 39) (h0 : 0 < m) (h1 : m ≤ 100) : WpB (fun p ys => ∃ L, p = lnv true true L ∧ LOk m L ∧ Box (n + 300) ys) (fun _ _ => False) (f__law_line xs [.int (m : Nat)]) := by
  simp_arith only [f__law_line, c__law_line]
  refine (take_ok hx (by omega) (by omega) (by omega)).use fun p ys hp => ?_
  obtain ⟨r, rfl, r0, r1, hb⟩ := hp
  simp_arith only []
  rw [if_pos (by omega)]
  have hz : (1 + r).toNat ≤ 100 := by omega
  have hlen : (rangeP 0 (1 + r).toNat).length = (1 + r).toNat := by simp [rangeP]
  refine wpC_draw (fun _ y => ∃ v : Int, y = .int v ∧ 1 ≤ v ∧ v ≤ 9) 2 hb (by omega) (fun p hp m xs hm hx => ?_) (fun ys zs hy hl hz => ?_)
  · rw [hlen] at hm
    simp_arith only []
    refine (take_ok hx (by omega) (by omega) (by omega)).use fun p ys hp => ?_
    obtain ⟨a, rfl, a0, a1, hb⟩ := hp
    simp_arith only []
    refine (take_ok hb (by omega) (by omega) (by omega)).use fun p ys hp => ?_
    obtain ⟨c, rfl, c0, c1, hb2⟩ := hp
    obtain ⟨x, hx, ex⟩ := at_mem (l := [PV.int 1, .int 2, .int 3, .int (1 + a)]) c0 (by simpa using c1)
    simp_arith only [ex]
    refine ⟨?_, _, rfl, hb2⟩
    simp at hx
    rcases hx with rfl | rfl | rfl | rfl
    · exact ⟨_, rfl, by omega, by omega⟩
    · exact ⟨_, rfl, by omega, by omega⟩
    · exact ⟨_, rfl, by omega, by omega⟩
    · exact ⟨_, rfl, by omega, by omega⟩
  · rw [hlen] at hy hl
    obtain ⟨l, rfl, hl', hp⟩ := ints_of (P := fun _ v => 1 ≤ v ∧ v ≤ 9) hl (fun i hi => by
      obtain ⟨z, e1, v, rfl, h1, h2⟩ := hz i (.int (0 + i)) (by simp [rangeP, hi])
      exact ⟨v, e1, h1, h2⟩)
    have lok : ∀ b : Bool, (b = true → 2 ≤ (1 + r).toNat) → LOk m ⟨b, l⟩ := fun b hb => ⟨by simp; omega, by simp; omega, fun h => by simp [hl']; exact hb h, fun j hj => by
      have := hp j (by simpa [hl'] using hj)
      simp at this ⊢
      omega⟩
    simp_arith only []
    by_cases hr : 1 < 1 + r
    · rw [if_pos hr]
      refine (take_ok hy (by omega) (by omega) (by omega)).use fun p ys hp => ?_
      obtain ⟨q, rfl, q0, q1, hb⟩ := hp
      simp_arith only []
      split
      · exact ⟨⟨true, l⟩, rfl, lok true (fun _ => by omega), hb.mono (by omega)⟩
      · exact ⟨⟨false, l⟩, rfl, lok false (fun h => by cases h), hb.mono (by omega)⟩
    · rw [if_neg hr]
      exact ⟨⟨false, l⟩, rfl, lok false (fun h => by cases h), hy.mono (by omega)⟩
theorem len_ng (L : Ln) : (L.rooms.length : Int) + (if (!L.ring) = true then 1 else 0) = (L.ng : Nat) := by
  unfold Ln.ng; cases L.ring <;> simp
theorem lnv_0 {t t' : Bool} {L : Ln} : pvIx (lnv t t' L) (.int 0) = some (.str (fm L.ring)) := by cases t <;> rfl
theorem lnv_1 {t t' : Bool} {L : Ln} : pvIx (lnv t t' L) (.int 1) = some (sq t' (iv L.rooms)) := by cases t <;> rfl
theorem doors_ok {n m : Nat} {xs : List PV} {L : Ln} (hx : Box n xs) (hn : n < 2 ^ 39) (hL : LOk m L) (hm : m ≤ 100) : WpB (fun p ys => ∃ ws, p = .tup (wvs ws) ∧ WOk L ws ∧ Box (n + 400) ys) (fun _ _ => False) (f__law_doors xs [lnv true true L]) := by
  have hng := ng_le L (by have := hL.le; omega)
  have hng2 : L.ng ≤ 101 := by have := hL.le; unfold Ln.ng; split <;> omega
  simp_arith only [lnv_0, lnv_1, f__law_doors, c__law_doors, len_ng]
  rw [if_pos (by omega)]
  simp only [Int.toNat_natCast]
  have hlen : (rangeP 0 L.ng).length = L.ng := by simp [rangeP]
  refine wpC_draw (fun _ y => ∃ v : Option Int, y = wv v ∧ ∀ x, v = some x → 0 ≤ x ∧ x ≤ 1000000000) 3 hx (by omega) (fun p hp m xs hm hx => ?_) (fun ys zs hy hl hz => ?_)
  · rw [hlen] at hm
    simp_arith only [lnv_0, lnv_1]
    refine (take_ok hx (by omega) (by omega) (by omega)).use fun p ys hp => ?_
    obtain ⟨a, rfl, a0, a1, hb⟩ := hp
    simp_arith only [lnv_0, lnv_1]
    refine (take_ok hb (by omega) (by omega) (by omega)).use fun p ys hp => ?_
    obtain ⟨c, rfl, c0, c1, hb2⟩ := hp
    simp_arith only [lnv_0, lnv_1]
    refine (take_ok hb2 (by omega) (by omega) (by omega)).use fun p ys hp => ?_
    obtain ⟨d, rfl, d0, d1, hb3⟩ := hp
    obtain ⟨x, hx, ex⟩ := at_mem (l := [PV.non, .int 0, .int (1 + a), .non, .int c]) d0 (by simpa using d1)
    simp_arith only [lnv_0, lnv_1, ex]
    refine ⟨?_, _, rfl, hb3⟩
    simp at hx
    rcases hx with rfl | rfl | rfl | rfl | rfl
    · exact ⟨none, rfl, fun x h => by cases h⟩
    · exact ⟨some 0, rfl, fun x h => by cases h; omega⟩
    · exact ⟨some _, rfl, fun x h => by cases h; omega⟩
    · exact ⟨none, rfl, fun x h => by cases h⟩
    · exact ⟨some _, rfl, fun x h => by cases h; omega⟩
  · rw [hlen] at hy hl
    obtain ⟨l, rfl, hl', hp⟩ := ws_of' (P := fun v => ∀ x, v = some x → 0 ≤ x ∧ x ≤ 1000000000) hl (fun i hi => by
      obtain ⟨z, e1, v, rfl, h1⟩ := hz i (.int (0 + i)) (by simp [rangeP, hi])
      exact ⟨v, e1, h1⟩)
    simp_arith only [lnv_0, lnv_1]
    exact ⟨l, rfl, ⟨hl', hp⟩, hy.mono (by omega)⟩
theorem iv_get {l : List Int} {i : Nat} {p : PV} (h : (iv l)[i]? = some p) : i < l.length ∧ p = .int (l.getD i 0) := by
  have hi : i < l.length := by
    by_cases z : i < l.length
    · exact z
    · rw [List.getElem?_eq_none (by simp [iv]; omega)] at h; cases h
  rw [iv, List.getElem?_map, List.getElem?_eq_getElem hi] at h
  cases h
  exact ⟨hi, by simp [List.getD, hi]⟩
theorem iv_at {l : List Int} {i : Nat} (h : i < l.length) : (iv l)[i]? = some (.int (l.getD i 0)) := by
  rw [iv, List.getElem?_map, List.getElem?_eq_getElem h]; simp [List.getD, h]
theorem iv_mem {l : List Int} {p : PV} (h : p ∈ iv l) : ∃ i, i < l.length ∧ p = .int (l.getD i 0) := by
  obtain ⟨i, hi⟩ := List.mem_iff_getElem?.mp h
  obtain ⟨h1, h2⟩ := iv_get hi
  exact ⟨i, h1, h2⟩
theorem lies_ok {n m : Nat} {xs : List PV} {L : Ln} (hx : Box n xs) (hn : n < 2 ^ 39) (hL : LOk m L) (hm : m ≤ 100) : WpB (fun p ys => ∃ st, p = .tup (iv st) ∧ SOk L st ∧ Box (n + 200) ys) (fun _ _ => False) (f__law_lies xs [lnv true true L]) := by
  have hle := hL.le
  simp_arith only [lnv_0, lnv_1, f__law_lies, c__law_lies]
  refine (take_ok hx (by omega) (by omega) (by omega)).use fun p ys hp => ?_
  obtain ⟨r, rfl, r0, r1, hb⟩ := hp
  simp_arith only [lnv_0, lnv_1]
  by_cases hr : r < 2
  · rw [if_pos hr]
    refine wpC_list (l := L.rooms) (f := PV.int) (fun a => .int (a * r)) (by omega) (fun a _ => ?_) ?_
    · have hs : -18446744073709551616 < r ∧ r < 18446744073709551616 := by omega
      simp_arith only [lnv_0, lnv_1, hs]
    · simp_arith only [lnv_0, lnv_1]
      refine ⟨L.rooms.map (· * r), by simp [iv], ⟨by simp, fun j hj => ?_⟩, hb.mono (by omega)⟩
      have := hL.rm j hj
      simp only [List.getD, List.getElem?_map, List.getElem?_eq_getElem hj, Option.map_some, Option.getD_some] at this ⊢
      have : r = 0 ∨ r = 1 := by omega
      rcases this with rfl | rfl <;> omega
  · rw [if_neg hr]
    have hli : (iv L.rooms).length = L.rooms.length := by simp [iv]
    refine wpC_draw (fun p y => ∃ q v : Int, p = .int q ∧ y = .int v ∧ 0 ≤ v ∧ v ≤ q) 1 hb (by omega) (fun p hp m xs hm hx => ?_) (fun ys zs hy hl hz => ?_)
    · rw [hli] at hm
      obtain ⟨j, hj, rfl⟩ := iv_mem hp
      have hj' := hL.rm j hj
      simp_arith only [lnv_0, lnv_1]
      refine (take_ok hx (by omega) (by omega) (by omega)).use fun p ys hp => ?_
      obtain ⟨a, rfl, a0, a1, hb⟩ := hp
      simp_arith only [lnv_0, lnv_1]
      exact ⟨by first | exact ⟨_, _, rfl, rfl, a0, by omega⟩ | exact ⟨_, rfl, a0, by omega⟩ | exact ⟨a0, by omega⟩, _, rfl, hb⟩
    · rw [hli] at hy hl
      obtain ⟨l, rfl, hl', hp⟩ := ints_of (P := fun i v => 0 ≤ v ∧ v ≤ L.rooms.getD i 0) hl (fun i hi => by
        obtain ⟨z, e1, q, v, e2, rfl, h1, h2⟩ := hz i _ (iv_at hi)
        cases e2
        exact ⟨v, e1, h1, h2⟩)
      simp_arith only [lnv_0, lnv_1]
      exact ⟨l, rfl, ⟨hl', hp⟩, hy.mono (by omega)⟩
noncomputable def gl_rest : MS := (mSeq (mSetF 5 (mArgs [])) (mSeq (mFor (mRange [m2 pvAdd (mName 2) (mCallB (on1 pvInt) [m2 pvEq (mIxN 4 (mC (.int 0))) (mC (.str "row"))])]) (mgName 6) (mAppend 5 (m2 pvIx (mFrz (mArgs [mC .non, mCallBx f__law_wide 0 [m2 pvPow (mC (.int 10)) (mC (.int 9))], m2 pvAdd (mC (.int 1)) (mCallBx f__law_take 0 [mC (.int 9)]), mC (.int 0)])) (m2 pvIx (mFrz (mArgs [mC (.int 0), mC (.int 0), mC (.int 1), mC (.int 1), mC (.int 2), mC (.int 3)])) (mCallBx f__law_take 0 [mC (.int 6)]))))) (mRet (mTup [mName 4, mCallB (on1 pvTuple) [mName 5], mCallB (on1 pvTuple) [mFrz (mComp (mSeqI (mName 3)) (mgName 8) (mYes) (mCallBx f__law_wide 0 [m2 pvAdd (mName 8) (mC (.int 1))]) [8])]]))))
theorem gl_eq : c__law_great_line = mSeq (mSet 2 (m2 pvAdd (mC (.int 2)) (mCallBx f__law_take 0 [m2 pvSub (mName 1) (mC (.int 1))]))) (mSeq (mSet 3 (mCallB (on1 pvTuple) [mFrz (mComp (mRange [mName 2]) (mgName 7) (mYes) (m2 pvAdd (mC (.int 1)) (mCallBx f__law_wide 0 [m2 pvPow (mC (.int 10)) (mC (.int 9))])) [7])])) (mSeq (mSet 4 (mTup [mIf (mTest (m2 pvEq (mCallBx f__law_take 0 [mC (.int 3)]) (mC (.int 0)))) (mC (.str "ring")) (mC (.str "row")), mName 3])) gl_rest)) := rfl
theorem gl_rest_ok {D : PR} {g : Bool} {l : List Int} {ys : List PV} {k m : Nat} {r : Int} {x7 : Slot} (hm : m ≤ 100) (lok : LOk m ⟨g, l⟩) (hl' : (l.length : Int) = 2 + r) (hk : k + 2000 < 2 ^ 40) (hb : Box k ys)
    (hD : ∀ ys ws st ρ, Box (k + 1000) ys → WOk ⟨g, l⟩ ws → SOk ⟨g, l⟩ st → D.rt (.tup [lnv true true ⟨g, l⟩, .tup (wvs ws), .tup (iv st)]) (.own ys :: ρ)) :
    WpS D (gl_rest [.own ys, .val (.int (m : Nat)), .val (.int (2 + r)), .val (.tup (iv l)), .val (lnv true true ⟨g, l⟩), .emp, .emp, x7, .emp]) := by
  have eL : (2 + r) + (if (!g) = true then 1 else 0) = ((Ln.mk g l).ng : Nat) := by
    have := len_ng ⟨g, l⟩
    simp only at this
    rw [← this, hl']
  have hng2 : (Ln.mk g l).ng ≤ 101 := by have := lok.le; unfold Ln.ng; split <;> simp at * <;> omega
  simp_arith only [lnv_0, lnv_1, gl_rest, eL]
  rw [if_pos (by omega)]
  simp only [Int.toNat_natCast]
  refine ws_forInv (fun i ρ => i ≤ (Ln.mk g l).ng → ∃ us ws x6, ρ = [.own us, .val (.int (m : Nat)), .val (.int (2 + r)), .val (.tup (iv l)), .val (lnv true true ⟨g, l⟩), .own (wvs ws), x6, x7, .emp] ∧ Box (k + 4 * i) us ∧ ws.length = i ∧ ∀ v ∈ ws, ∀ x, v = some x → 0 ≤ x ∧ x ≤ 1000000000) (fun _ => ⟨ys, [], _, rfl, hb, rfl, by simp⟩) ?_ ?_
  · rintro i p ρ e h
    obtain ⟨hi, rfl⟩ := rangeP_get e
    obtain ⟨us, ws, x6, rfl, hb, hwl, hws⟩ := h (by omega)
    simp_arith only [lnv_0, lnv_1]
    refine (wide_ok hb (by omega) (by omega)).use fun p ys hp => ?_
    obtain ⟨a, rfl, a0, a1, hb⟩ := hp
    simp_arith only [lnv_0, lnv_1]
    refine (take_ok hb (by omega) (by omega) (by omega)).use fun p ys hp => ?_
    obtain ⟨c, rfl, c0, c1, hb⟩ := hp
    simp_arith only [lnv_0, lnv_1]
    refine (take_ok hb (by omega) (by omega) (by omega)).use fun p ys hp => ?_
    obtain ⟨d, rfl, d0, d1, hb⟩ := hp
    obtain ⟨x, hx, ex⟩ := at_mem (l := [PV.int 0, .int 0, .int 1, .int 1, .int 2, .int 3]) d0 (by simpa using d1)
    obtain ⟨j, rfl, j0, j1⟩ : ∃ j : Int, x = .int j ∧ 0 ≤ j ∧ j < 4 := by
      simp at hx
      rcases hx with rfl | rfl | rfl | rfl <;> exact ⟨_, rfl, by decide, by decide⟩
    obtain ⟨y, hy, ey⟩ := at_mem (l := [PV.non, .int a, .int (1 + c), .int 0]) j0 (by simpa using j1)
    obtain ⟨v, rfl, hv⟩ : ∃ v : Option Int, y = wv v ∧ ∀ x, v = some x → 0 ≤ x ∧ x ≤ 1000000000 := by
      simp at hy
      rcases hy with rfl | rfl | rfl | rfl
      · exact ⟨none, rfl, fun x h => by cases h⟩
      · exact ⟨some _, rfl, fun x h => by cases h; omega⟩
      · exact ⟨some _, rfl, fun x h => by cases h; omega⟩
      · exact ⟨some 0, rfl, fun x h => by cases h; omega⟩
    simp_arith only [lnv_0, lnv_1, ex, ey]
    rw [if_pos (sz _ (by omega))]
    refine fun _ => ⟨_, ws ++ [v], _, by simp [wvs]; rfl, hb.mono (by omega), by simp [hwl], fun u hu => ?_⟩
    rcases List.mem_append.mp hu with hu | hu
    · exact hws u hu
    · simp at hu; subst hu; exact hv
  · intro ρ h
    obtain ⟨us, ws, x6, rfl, hb, hwl, hws⟩ := h (by simp [rangeP])
    rw [show (rangeP 0 (Ln.mk g l).ng).length = (Ln.mk g l).ng by simp [rangeP]] at hb hwl
    simp_arith only [lnv_0, lnv_1]
    have hli : (iv l).length = l.length := by simp [iv]
    refine wpC_draw (fun p y => ∃ q v : Int, p = .int q ∧ y = .int v ∧ 0 ≤ v ∧ v ≤ q) 2 hb (by omega) (fun p hp m xs hm hx => ?_) (fun ys zs hy hl2 hz => ?_)
    · rw [hli] at hm
      obtain ⟨j, hj, rfl⟩ := iv_mem hp
      have hj' := lok.rm j hj
      simp only at hj'
      simp_arith only [lnv_0, lnv_1]
      refine (wide_ok hx (by omega) (by omega)).use fun p ys hp => ?_
      obtain ⟨a, rfl, a0, a1, hb⟩ := hp
      simp_arith only [lnv_0, lnv_1]
      exact ⟨by first | exact ⟨_, _, rfl, rfl, a0, by omega⟩ | exact ⟨_, rfl, a0, by omega⟩ | exact ⟨a0, by omega⟩, _, rfl, hb⟩
    · rw [hli] at hy hl2
      obtain ⟨s, rfl, hs', hp⟩ := ints_of (P := fun i v => 0 ≤ v ∧ v ≤ l.getD i 0) hl2 (fun i hi => by
        obtain ⟨z, e1, q, v, e2, rfl, h1, h2⟩ := hz i _ (iv_at hi)
        cases e2
        exact ⟨v, e1, h1, h2⟩)
      simp_arith only [lnv_0, lnv_1]
      exact hD _ ws s _ (hy.mono (by simp at *; have := lok.le; simp at this; omega)) ⟨hwl, hws⟩ ⟨hs', hp⟩
theorem great_ok {n m : Nat} {xs : List PV} (hx : Box n xs) (hn : n < 2 ^ 39) (h0 : 2 ≤ m) (h1 : m ≤ 100) : WpB (fun p ys => ∃ L ws st, p = .tup [lnv true true L, .tup (wvs ws), .tup (iv st)] ∧ LOk m L ∧ WOk L ws ∧ SOk L st ∧ Box (n + 1500) ys) (fun _ _ => False) (f__law_great_line xs [.int (m : Nat)]) := by
  simp_arith only [lnv_0, lnv_1, f__law_great_line, gl_eq]
  refine (take_ok hx (by omega) (by omega) (by omega)).use fun p ys hp => ?_
  obtain ⟨r, rfl, r0, r1, hb⟩ := hp
  simp_arith only [lnv_0, lnv_1]
  rw [if_pos (by omega)]
  have hz : (2 + r).toNat ≤ 100 := by omega
  have hlen : (rangeP 0 (2 + r).toNat).length = (2 + r).toNat := by simp [rangeP]
  refine wpC_draw (fun _ y => ∃ v : Int, y = .int v ∧ 1 ≤ v ∧ v ≤ 1000000000) 2 hb (by omega) (fun p hp m xs hm hx => ?_) (fun ys zs hy hl hz => ?_)
  · rw [hlen] at hm
    simp_arith only [lnv_0, lnv_1]
    refine (wide_ok hx (by omega) (by omega)).use fun p ys hp => ?_
    obtain ⟨a, rfl, a0, a1, hb⟩ := hp
    simp_arith only [lnv_0, lnv_1]
    exact ⟨by first | exact ⟨_, rfl, by omega, by omega⟩ | exact ⟨by omega, by omega⟩, _, rfl, hb⟩
  · rw [hlen] at hy hl
    obtain ⟨l, rfl, hl', hp⟩ := ints_of (P := fun _ v => 1 ≤ v ∧ v ≤ 1000000000) hl (fun i hi => by
      obtain ⟨z, e1, v, rfl, h1, h2⟩ := hz i (.int (0 + i)) (by simp [rangeP, hi])
      exact ⟨v, e1, h1, h2⟩)
    simp_arith only [lnv_0, lnv_1]
    refine (take_ok hy (by omega) (by omega) (by omega)).use fun p ys hp => ?_
    obtain ⟨q, rfl, q0, q1, hb⟩ := hp
    have lok : ∀ b : Bool, LOk m ⟨b, l⟩ := fun b => ⟨by simp; omega, by simp; omega, fun h => by simp [hl']; omega, fun j hj => hp j (by simpa [hl'] using hj)⟩
    have l1 : PV.tup [.str "ring", .tup (iv l)] = lnv true true ⟨true, l⟩ := rfl
    have l2 : PV.tup [.str "row", .tup (iv l)] = lnv true true ⟨false, l⟩ := rfl
    simp_arith only [lnv_0, lnv_1, l1, l2]
    by_cases hq : q = 0
    · rw [if_pos hq]
      refine gl_rest_ok h1 (lok true) (by omega) (by omega) hb fun ys ws st ρ b w s => ?_
      simp_arith only [lnv_0, lnv_1]
      exact ⟨_, ws, st, rfl, lok true, w, s, b.mono (by omega)⟩
    · rw [if_neg hq]
      refine gl_rest_ok h1 (lok false) (by omega) (by omega) hb fun ys ws st ρ b w s => ?_
      simp_arith only [lnv_0, lnv_1]
      exact ⟨_, ws, st, rfl, lok false, w, s, b.mono (by omega)⟩
end Ev

set_option maxHeartbeats 2000000
set_option linter.all false
set_option Elab.async false
set_option maxRecDepth 100000
namespace Ev
open PySem L2
local macro_rules | `(tactic| simp_arith only [$ls,*]) => `(tactic| simp -implicitDefEqProofs only [Nat.reduceSub, Nat.reduceAdd, Int.reduceLT, Int.reduceLE, Int.reduceGT, Int.reduceGE, Int.reduceEq, Int.reducePow, Nat.reducePow, Nat.reduceMul, Int.reduceNeg, Int.reduceToNat, Int.reduceAbs, Int.reduceMod, Int.reduceDiv, Int.reduceAdd, Int.reduceSub, Int.reduceMul, Nat.reduceLT, Nat.reduceLeDiff, Nat.reduceEqDiff, decide_eq_true_eq, decide_true, decide_false, and_true, true_and, true_or, or_true, false_or, or_false, and_false, false_and, if_false, ite_true, ite_false, PV.int.injEq, PV.bl.injEq, exists_eq_left', Bool.not_true, Bool.not_false, Bool.false_eq_true, not_true_eq_false, not_false_eq_true, reduceCtorEq, Option.some.injEq, wp_ok, wp_exc, wp_bad, wo_some, wo_none, wo_if, wo_map, wo_bind, wp_of, ws_nx, ws_rt, ws_rf, ws_bk, ws_ct, ws_exc, ws_bad, wp_name, wp_c, wp_m2, wp_m1, wp_test, wp_truthN, wp_sumN, wp_lenN, wp_ixN, wp_and, wp_or, wp_notT, wp_andV, wp_orV, wp_notV, wp_if, wp_ifF, wp_args0, wp_args1, wp_tup, wp_frz, wp_callB, wp_callF, wp_cat, wp_repL, wp_chain, wp_cut, wp_part0, wp_part1, wp_call, wp_callFr, wp_callBx, wp_popN, wp_index, wp_yes, wp_seqI, wp_range, wp_revI, wp_zip, wp_zipB, wp_zipS, wp_enum, wp_zip3, wp_enZ, wp_callK, wp_callKF, wp_callBxF, wp_cps0, wp_cps1, wp_cpv, wp_cpf, ws_parG, ws_seq, ws_nil, ws_never, ws_pass, ws_ret, ws_retF, ws_retN, ws_set, ws_setF, ws_if, ws_asg, ws_par, ws_par3, ws_parF, ws_aug, ws_append, ws_setIx, ws_reverse, ws_clear, ws_extend, ws_popAt, ws_insert, wp_cmpN, wp_callBr, wpP_runP, wpF_runF, wpB_runB, wpP_ok, wpF_ok, wpP_exc, wpB_ok, ws_for', ws_forNil, wp_comp, wpC_nil, ev_g0, ev_gs, ev_gn, ev_s0, ev_ss, ev_m0, ev_m1, ev_a0, ev_a1, ev_r0, ev_rs, ev_l0, ev_l1, ev_d0, ev_d1, ev_ob, ev_om, ev_it, ev_if, ev_gl, ev_gl1, ev_dl, ev_dl1, ev_gla, ev_dla, add_ii, addI_ii, sub_ii, add_ll, add_tt, mod_ii, div_ii, pow_ii, mul_ii, mul_li, lt_ii, le_ii, gt_ii, ge_ii, neg_i, eq_ii, ne_ii, eq_bb, ne_bb, xor_f, xor_t, eq_str, ne_str, is_bb, isnot_bb, is_n, is_in, is_sn, is_bn, is_tn, is_ln, isnot_n, isnot_in, truth_b, truth_i, truth_l, truth_t, len_l, len_t, len_s, ix_l, ix_t, ix_s, seq_l, seq_t, seq_s, tuple_l, tuple_t, list_l, list_t, list_s, on1_p, abs_i, int_b, int_i, max_ii, min_ii, max1_l, min1_l, rev_l, rev_t, zip_ll, zip_tt, cat_ll, range_1, range_2, slot_0, slot_s, zip3_lll, zip3_llt, zip3_ltl, zip3_ltt, zip3_tll, zip3_tlt, zip3_ttl, zip3_ttt, zipB_ll, zipB_tt, zipB_lt, zipB_tl, zipS_ll, zipS_tt, zipS_lt, zipS_tl, omap_en, enum_l, enum_t, down_l, down_t, down_t0, setAll_0, setAll_1, atom_n, atom_b, atom_i, atom_s, permP_0, permP_1, getD_0, getD_s, isi_int_i, isi_int_b, isi_bool_i, isi_bool_b, isi_tup_t, isi_tup_l, isi_lst_l, isi_lst_t, isi_str_s, isi_str_i, isi_str_b, isi_str_n, isi_lt_l, isi_lt_t, isi_lt_i, isi_lt_b, isi_lt_s, isi_lt_n, at_0, at_1, at_2, at_3, at_last, mg_name, mg_tup, mg_lst, mg_nil, mg_cons, own0_own, startR_eq, wipe_0, wipe_1, back_0, back_1, ixN_3_0, ixN_3_1, ixN_3_2, szl, sze, wp_dict, eq_ints, eq_ww, eq_wf, sq_t, sq_f, ix_sq, len_sq, tuple_sq, list_sq, seq_sq, revI_sq, mg_sq, zipS_sq, zipS_st, zipS_ts, zipB_sq, zipB_st, zipB_ts, eq_fm, eq_fmr, iv_len, wvs_len, isring_ok, bins_ok, gates_ok, behind_ok, ahead_ok, out_ok, eq_iv, ne_iv, lnv_0, lnv_1, $ls,*])
/-! turned about -/
theorem ext_getD {α : Type} {d : α} {a b : List α} (hl : a.length = b.length) (h : ∀ i, i < a.length → a.getD i d = b.getD i d) : a = b := by
  apply List.ext_getElem hl
  intro i h1 h2
  have := h i h1
  simpa [List.getD, List.getElem?_eq_getElem h1, List.getElem?_eq_getElem h2] using this
theorem getD_rev {α : Type} {d : α} {a : List α} {i : Nat} (h : i < a.length) : a.reverse.getD i d = a.getD (a.length - 1 - i) d := by
  have h2 : a.length - 1 - i < a.length := by omega
  simp only [List.getD]
  rw [List.getElem?_reverse h]
theorem getD_range {n i : Nat} {f : Nat → Int} (h : i < n) : ((List.range n).map f).getD i 0 = f i := by
  simp [List.getD, h]
theorem getD_map0 {l : List Int} {f : Int → Int} {i : Nat} (h : i < l.length) : (l.map f).getD i 0 = f (l.getD i 0) := by
  simp [List.getD, h]
def tnL (L : Ln) : Ln := ⟨L.ring, L.rooms.reverse⟩
def ov {α : Type} (L : Ln) (l : List α) : List α := if L.ring then l.take 1 ++ (l.drop 1).reverse else l.reverse
def gt (L : Ln) (g : Nat) : Nat := if L.ring then (L.rooms.length - g) % L.rooms.length else L.rooms.length - g
@[simp] theorem tnL_n (L : Ln) : (tnL L).rooms.length = L.rooms.length := by simp [tnL]
@[simp] theorem tnL_ring (L : Ln) : (tnL L).ring = L.ring := rfl
@[simp] theorem tnL_ng (L : Ln) : (tnL L).ng = L.ng := by simp [Ln.ng]
@[simp] theorem ov_len {α : Type} (L : Ln) (l : List α) : (ov L l).length = l.length := by unfold ov; split <;> simp; omega
theorem gt_lt {L : Ln} {g : Nat} (hn : 0 < L.rooms.length) (hg : g < L.ng) : gt L g < L.ng := by
  unfold gt Ln.ng at *
  split
  · exact Nat.mod_lt _ hn
  · omega
theorem ov_getD {α : Type} {d : α} {L : Ln} {l : List α} {g : Nat} (hn : 0 < L.rooms.length) (hl : l.length = L.ng) (hg : g < L.ng) : (ov L l).getD g d = l.getD (gt L g) d := by
  unfold ov gt
  unfold Ln.ng at hl hg
  cases hr : L.ring with
  | true =>
    simp only [hr, if_true] at hl hg ⊢
    by_cases h0 : g = 0
    · subst h0
      rw [Nat.sub_zero, Nat.mod_self]
      match l, hl with
      | [], hl => simp at hl; omega
      | a :: l, _ => simp
    · rw [Nat.mod_eq_of_lt (by omega)]
      have h1 : (l.take 1).length = 1 := by simp; omega
      simp only [List.getD]
      rw [List.getElem?_append_right (by omega), h1, List.getElem?_reverse (by simp; omega), List.getElem?_drop]
      congr 2
      simp
      omega
  | false =>
    simp only [hr, Bool.false_eq_true, if_false] at hl hg ⊢
    rw [getD_rev (by omega)]
    congr 1
    omega
theorem bh_tn {L : Ln} {g : Nat} (hn : 0 < L.rooms.length) (hg : g < L.ng) : (tnL L).bh g = (L.ah (gt L g)).map (fun j => L.rooms.length - 1 - j) := by
  unfold Ln.ng at hg
  unfold Ln.bh Ln.ah gt
  simp only [tnL_ring, tnL_n]
  cases hr : L.ring with
  | true =>
    simp only [hr, if_true] at hg ⊢
    simp only [Option.map_some, Option.some.injEq]
    by_cases h0 : g = 0
    · subst h0
      rw [Nat.sub_zero, Nat.mod_self, Nat.zero_add, Nat.mod_eq_of_lt (by omega)]
      rfl
    · rw [Nat.mod_eq_of_lt (show L.rooms.length - g < L.rooms.length by omega), show g + (L.rooms.length - 1) = (g - 1) + L.rooms.length by omega, Nat.add_mod_right, Nat.mod_eq_of_lt (by omega)]
      omega
  | false =>
    simp only [hr, Bool.false_eq_true, if_false] at hg ⊢
    by_cases h0 : 0 < g
    · rw [if_pos h0, if_pos (by omega)]
      simp only [Option.map_some, Option.some.injEq]
      omega
    · rw [if_neg h0, if_neg (by omega)]
      rfl
theorem ah_tn {L : Ln} {g : Nat} (hn : 0 < L.rooms.length) (hg : g < L.ng) : (tnL L).ah g = (L.bh (gt L g)).map (fun j => L.rooms.length - 1 - j) := by
  unfold Ln.ng at hg
  unfold Ln.bh Ln.ah gt
  simp only [tnL_ring, tnL_n]
  cases hr : L.ring with
  | true =>
    simp only [hr, if_true] at hg ⊢
    simp only [Option.map_some, Option.some.injEq]
    by_cases h0 : g = 0
    · subst h0
      rw [Nat.sub_zero, Nat.mod_self, Nat.zero_add, Nat.mod_eq_of_lt (by omega)]
      omega
    · rw [Nat.mod_eq_of_lt (show L.rooms.length - g < L.rooms.length by omega), show L.rooms.length - g + (L.rooms.length - 1) = (L.rooms.length - g - 1) + L.rooms.length by omega, Nat.add_mod_right, Nat.mod_eq_of_lt (by omega)]
      omega
  | false =>
    simp only [hr, Bool.false_eq_true, if_false] at hg ⊢
    by_cases h0 : g < L.rooms.length
    · rw [if_pos h0, if_pos (by omega)]
      simp only [Option.map_some, Option.some.injEq]
      omega
    · rw [if_neg h0, if_neg (by omega)]
      rfl
theorem tl1_map (o : Option Nat) (h : Nat → Nat) (f : Nat → Int) : tl1 (o.map h) f = tl1 o fun j => f (h j) := by cases o <;> rfl
theorem tl1_congr {o : Option Nat} {f f' : Nat → Int} (h : ∀ j, o = some j → f j = f' j) : tl1 o f = tl1 o f' := by
  cases o with
  | none => rfl
  | some j => simp [tl1, h j rfl]
section
variable {L : Ln} {ws : List (Option Int)} {st : List Int} {w : Bool}
/-- back is forth turned about -/
theorem gs_tn (hn : 0 < L.rooms.length) (hs : st.length = L.rooms.length) (hw : ws.length = L.ng) {g : Nat} (hg : g < L.ng) : gs (tnL L) (ov L ws) st.reverse (!w) g = gs L ws st w (gt L g) := by
  have hg' := gt_lt hn hg
  unfold gs bnds
  rw [ov_getD hn hw hg, bh_tn hn hg, ah_tn hn hg]
  have e1 : ∀ j, j < L.rooms.length → st.reverse.getD (L.rooms.length - 1 - j) 0 = st.getD j 0 := fun j hj => by
    rw [getD_rev (by omega), hs]; congr 1; omega
  have e2 : ∀ j, j < L.rooms.length → (tnL L).rooms.getD (L.rooms.length - 1 - j) 0 = L.rooms.getD j 0 := fun j hj => by
    show L.rooms.reverse.getD _ 0 = _
    rw [getD_rev (by omega)]; congr 1; omega
  have b1 := fun j h => bh_lt (L := L) (g := gt L g) (j := j) hn hg' h
  have a1 := fun j h => ah_lt (L := L) (g := gt L g) (j := j) hg' h
  cases w with
  | true =>
    simp only [Bool.not_true, Bool.false_eq_true, if_false, if_true, tl1_map]
    rw [tl1_congr (fun j h => e1 j (b1 j h)), tl1_congr (o := L.ah (gt L g)) (f' := fun j => L.rooms.getD j 0 - st.getD j 0) (fun j h => by rw [e1 j (a1 j h), e2 j (a1 j h)])]
  | false =>
    simp only [Bool.not_false, Bool.false_eq_true, if_false, if_true, tl1_map]
    rw [tl1_congr (fun j h => e1 j (a1 j h)), tl1_congr (o := L.bh (gt L g)) (f' := fun j => L.rooms.getD j 0 - st.getD j 0) (fun j h => by rw [e1 j (b1 j h), e2 j (b1 j h)])]
theorem mv_tn (hn : 0 < L.rooms.length) (hs : st.length = L.rooms.length) (hw : ws.length = L.ng) : mv (tnL L) (ov L ws) st.reverse (!w) = ov L (mv L ws st w) := by
  refine ext_getD (d := 0) (by simp) fun g hg => ?_
  replace hg : g < L.ng := by simpa using hg
  rw [ov_getD hn (by simp) hg]
  unfold mv
  rw [getD_range (by simpa using hg), getD_range (gt_lt hn hg)]
  exact gs_tn hn hs hw hg
theorem go_tn {j : Nat} (hn : 0 < L.rooms.length) (hj : j < L.rooms.length) : gt L j = L.go (L.rooms.length - 1 - j) ∧ gt L ((tnL L).go j) = L.rooms.length - 1 - j ∧ (tnL L).go j < L.ng := by
  unfold gt Ln.go Ln.ng
  simp only [tnL_ring, tnL_n]
  cases hr : L.ring with
  | true =>
    simp only [if_true]
    refine ⟨by congr 1; omega, ?_, Nat.mod_lt _ hn⟩
    by_cases h : j + 1 = L.rooms.length
    · rw [h, Nat.mod_self, Nat.sub_zero, Nat.mod_self]; omega
    · rw [Nat.mod_eq_of_lt (show j + 1 < L.rooms.length by omega), Nat.mod_eq_of_lt (by omega)]; omega
  | false =>
    simp only [Bool.false_eq_true, if_false]
    exact ⟨by omega, by omega, by omega⟩
def ng1 (l : List Int) : List Int := l.map fun c => -c
@[simp] theorem ng1_len (l : List Int) : (ng1 l).length = l.length := by simp [ng1]
theorem ng1_getD {l : List Int} {i : Nat} : (ng1 l).getD i 0 = -(l.getD i 0) := by
  simp only [ng1, List.getD, List.getElem?_map]
  cases l[i]? <;> simp
theorem bc_tn {cs : List Int} (hn : 0 < L.rooms.length) (hs : st.length = L.rooms.length) (hc : cs.length = L.ng) : bc (tnL L) st.reverse (ng1 (ov L cs)) = (bc L st cs).reverse := by
  refine ext_getD (d := 0) (by simp) fun j hj => ?_
  replace hj : j < L.rooms.length := by simpa using hj
  obtain ⟨g1, g2, g3⟩ := go_tn hn hj
  rw [getD_rev (by simpa using hj)]
  unfold bc
  rw [getD_range (by simpa using hj), getD_range (by simp; omega), ng1_getD, ng1_getD, ov_getD hn hc (Nat.lt_of_lt_of_le hj ng_ge), ov_getD hn hc g3, g1, g2, getD_rev (by omega), hs]
  simp only [List.length_map, List.length_range]
  omega
theorem sg_not (cs : List Int) (w : Bool) : sg cs (!w) = ng1 (sg cs w) := by
  cases w with
  | true => rfl
  | false => simp [sg, ng1, Function.comp_def]
theorem ov_ng1 (cs : List Int) : ov L (ng1 cs) = ng1 (ov L cs) := by
  unfold ov ng1; split <;> simp
theorem sg_ov (cs : List Int) : sg (ov L cs) w = ov L (sg cs w) := by
  cases w with
  | true => rfl
  | false => exact (ov_ng1 cs).symm
theorem bt_tn (hn : 0 < L.rooms.length) (hs : st.length = L.rooms.length) (hw : ws.length = L.ng) : bt (tnL L) (ov L ws) st.reverse (!w) = (bt L ws st w).reverse := by
  unfold bt
  rw [mv_tn hn hs hw, sg_not, sg_ov, bc_tn hn hs (by simp)]
/-- free room, turned about -/
def hl (L : Ln) (st : List Int) : List Int := (List.zipWith (fun a b => b - a) st L.rooms).reverse
theorem hl_len (hs : st.length = L.rooms.length) : (hl L st).length = L.rooms.length := by simp [hl, hs]
theorem lk_getD (hs : st.length = L.rooms.length) {j : Nat} (hj : j < L.rooms.length) : (List.zipWith (fun a b : Int => b - a) st L.rooms).getD j 0 = L.rooms.getD j 0 - st.getD j 0 := by
  have h1 : j < st.length := by omega
  simp [List.getD, List.getElem?_zipWith, List.getElem?_eq_getElem h1, List.getElem?_eq_getElem hj]
theorem hl_getD (hs : st.length = L.rooms.length) {j : Nat} (hj : j < L.rooms.length) : (hl L st).getD j 0 = L.rooms.getD (L.rooms.length - 1 - j) 0 - st.getD (L.rooms.length - 1 - j) 0 := by
  unfold hl
  rw [getD_rev (by simp [hs, hj]), show (List.zipWith (fun a b : Int => b - a) st L.rooms).length = L.rooms.length by simp [hs], lk_getD hs (by omega)]
theorem minO3 (w : Option Int) (a b : List Int) : minO (w.toList ++ a ++ b) = minO (w.toList ++ b ++ a) → True := fun _ => trivial
theorem minO_swap (w : Option Int) (a b : Option Nat) (f h : Nat → Int) : minO (w.toList ++ tl1 a f ++ tl1 b h) = minO (w.toList ++ tl1 b h ++ tl1 a f) := by
  cases w <;> cases a <;> cases b <;> simp [tl1, minO] <;> omega
theorem gs_hl (hn : 0 < L.rooms.length) (hs : st.length = L.rooms.length) (hw : ws.length = L.ng) {g : Nat} (hg : g < L.ng) : gs (tnL L) (ov L ws) (hl L st) w g = gs L ws st w (gt L g) := by
  have hg' := gt_lt hn hg
  unfold gs bnds
  rw [ov_getD hn hw hg, bh_tn hn hg, ah_tn hn hg]
  have e1 : ∀ j, j < L.rooms.length → (hl L st).getD (L.rooms.length - 1 - j) 0 = L.rooms.getD j 0 - st.getD j 0 := fun j hj => by
    rw [hl_getD hs (by omega), show L.rooms.length - 1 - (L.rooms.length - 1 - j) = j by omega]
  have e2 : ∀ j, j < L.rooms.length → (tnL L).rooms.getD (L.rooms.length - 1 - j) 0 = L.rooms.getD j 0 := fun j hj => by
    show L.rooms.reverse.getD _ 0 = _
    rw [getD_rev (by omega)]; congr 1; omega
  have b1 := fun j h => bh_lt (L := L) (g := gt L g) (j := j) hn hg' h
  have a1 := fun j h => ah_lt (L := L) (g := gt L g) (j := j) hg' h
  cases w with
  | true =>
    simp only [if_true, tl1_map]
    rw [tl1_congr (fun j h => e1 j (a1 j h)), tl1_congr (o := L.bh (gt L g)) (f' := fun j => st.getD j 0) (fun j h => by rw [e1 j (b1 j h), e2 j (b1 j h)]; omega), minO_swap]
  | false =>
    simp only [Bool.false_eq_true, if_false, tl1_map]
    rw [tl1_congr (fun j h => e1 j (b1 j h)), tl1_congr (o := L.ah (gt L g)) (f' := fun j => st.getD j 0) (fun j h => by rw [e1 j (a1 j h), e2 j (a1 j h)]; omega), minO_swap]
theorem mv_hl (hn : 0 < L.rooms.length) (hs : st.length = L.rooms.length) (hw : ws.length = L.ng) : mv (tnL L) (ov L ws) (hl L st) w = ov L (mv L ws st w) := by
  refine ext_getD (d := 0) (by simp) fun g hg => ?_
  replace hg : g < L.ng := by simpa using hg
  rw [ov_getD hn (by simp) hg]
  unfold mv
  rw [getD_range (by simpa using hg), getD_range (gt_lt hn hg)]
  exact gs_hl hn hs hw hg
theorem bc_hl {cs : List Int} (hn : 0 < L.rooms.length) (hs : st.length = L.rooms.length) (hc : cs.length = L.ng) : bc (tnL L) (hl L st) (ov L cs) = hl L (bc L st cs) := by
  have hb : (bc L st cs).length = L.rooms.length := by simp
  refine ext_getD (d := 0) (by rw [hl_len hb]; simp) fun j hj => ?_
  replace hj : j < L.rooms.length := by simpa using hj
  obtain ⟨g1, g2, g3⟩ := go_tn hn hj
  rw [hl_getD hb hj]
  unfold bc
  rw [getD_range (by simpa using hj), getD_range (by omega), ov_getD hn hc (Nat.lt_of_lt_of_le hj ng_ge), ov_getD hn hc g3, g1, g2, hl_getD hs hj]
  omega
theorem bt_hl (hn : 0 < L.rooms.length) (hs : st.length = L.rooms.length) (hw : ws.length = L.ng) : bt (tnL L) (ov L ws) (hl L st) w = hl L (bt L ws st w) := by
  unfold bt
  rw [mv_hl hn hs hw, sg_ov, bc_hl hn hs (by simp)]
/-! runs -/
theorem zipadd_ov (a b : List Int) (h : a.length = b.length) : List.zipWith (· + ·) (ov L a) (ov L b) = ov L (List.zipWith (· + ·) a b) := by
  unfold ov
  split
  · rw [List.zipWith_append (by simp [h]), List.take_zipWith, List.drop_zipWith, List.reverse_zipWith (by simp [h])]
  · rw [List.reverse_zipWith h]
theorem zipadd_ng1 : ∀ a b : List Int, List.zipWith (· + ·) (ng1 a) (ng1 b) = ng1 (List.zipWith (· + ·) a b)
  | [], b => by simp [ng1]
  | x :: a, [] => by simp [ng1]
  | x :: a, y :: b => by
    have := zipadd_ng1 a b
    simp only [ng1, List.map_cons, List.zipWith_cons_cons] at this ⊢
    rw [this]; congr 1; omega
theorem ldF_hl (hn : 0 < L.rooms.length) : ∀ (run : List Bt) (p : List Int × List Int), p.1.length = L.rooms.length → p.2.length = L.ng → (∀ r ∈ run, r.2.length = L.ng) →
    (run.map fun r => (r.1, ov L r.2)).foldl (ldS (tnL L)) (hl L p.1, ov L p.2) = (hl L (run.foldl (ldS L) p).1, ov L (run.foldl (ldS L) p).2)
  | [], p, h1, h2, h3 => rfl
  | r :: run, p, h1, h2, h3 => by
    have hr := h3 r (by simp)
    have ls := ldS_len p r h1 h2
    have ih := ldF_hl hn run (ldS L p r) ls.1 ls.2 (fun q hq => h3 q (by simp [hq]))
    simp only [List.map_cons, List.foldl_cons]
    rw [← ih]
    congr 1
    simp only [ldS]
    rw [bt_hl hn h1 hr, mv_hl hn h1 hr, sg_ov, zipadd_ov _ _ (by simp [h2])]
theorem ld_hl (hn : 0 < L.rooms.length) (run : List Bt) (hs : st.length = L.rooms.length) (hr : ∀ r ∈ run, r.2.length = L.ng) : ld (tnL L) (hl L st) (run.map fun r => (r.1, ov L r.2)) = (hl L (ld L st run).1, ov L (ld L st run).2) := by
  have := ldF_hl hn run (st, List.replicate L.ng 0) hs (by simp) hr
  unfold ld
  rw [← this, tnL_ng]
  congr 2
  unfold ov
  split <;> simp <;> omega
theorem ldF_tn (hn : 0 < L.rooms.length) : ∀ (run : List Bt) (p : List Int × List Int), p.1.length = L.rooms.length → p.2.length = L.ng → (∀ r ∈ run, r.2.length = L.ng) →
    (run.map fun r => (!r.1, ov L r.2)).foldl (ldS (tnL L)) (p.1.reverse, ng1 (ov L p.2)) = ((run.foldl (ldS L) p).1.reverse, ng1 (ov L (run.foldl (ldS L) p).2))
  | [], p, h1, h2, h3 => rfl
  | r :: run, p, h1, h2, h3 => by
    have hr := h3 r (by simp)
    have ls := ldS_len p r h1 h2
    have ih := ldF_tn hn run (ldS L p r) ls.1 ls.2 (fun q hq => h3 q (by simp [hq]))
    simp only [List.map_cons, List.foldl_cons]
    rw [← ih]
    congr 1
    simp only [ldS]
    rw [bt_tn hn h1 hr, mv_tn hn h1 hr, sg_not, sg_ov, zipadd_ng1, zipadd_ov _ _ (by simp [h2])]
theorem ld_tn (hn : 0 < L.rooms.length) (run : List Bt) (hs : st.length = L.rooms.length) (hr : ∀ r ∈ run, r.2.length = L.ng) : ld (tnL L) st.reverse (run.map fun r => (!r.1, ov L r.2)) = ((ld L st run).1.reverse, ng1 (ov L (ld L st run).2)) := by
  have := ldF_tn hn run (st, List.replicate L.ng 0) hs (by simp) hr
  unfold ld
  rw [← this, tnL_ng]
  congr 2
  unfold ov ng1
  split <;> simp <;> omega
end
/-! the program's own -/
theorem cut_1 {xs : List PV} : pvCut (.tup xs) none (some 1) = some (.tup (xs.take 1)) := by
  show some (PV.tup (cutP xs none (some 1))) = _
  congr 2
  unfold cutP
  rw [show HT.sIx xs.length 0 none = 0 from rfl, show HT.sIx xs.length xs.length (some 1) = min 1 xs.length from HT.sIx_nat _ _ 1]
  cases xs <;> simp
theorem ov_wvs (L : Ln) (l : List (Option Int)) : wvs (ov L l) = ov L (wvs l) := by unfold ov wvs; split <;> simp
theorem ov_iv (L : Ln) (l : List Int) : iv (ov L l) = ov L (iv l) := by unfold ov iv; split <;> simp
section
variable {t t' t1 t2 : Bool} {L : Ln} {ws : List (Option Int)} {st : List Int} {w : Bool}
theorem over_ok {xs : List PV} (hz : xs.length ≤ 1000) : f__law_over [lnv t t' L, .tup xs] = .ok (.tup (ov L xs)) := by
  rw [wpP_eq]
  cases h : L.ring with
  | true =>
    simp_arith only [f__law_over, c__law_over, lnv_0, h, cut_1]
    rw [if_pos (Nat.le_of_lt (sz _ (by simp; omega)))]
    simp [ov, h]
  | false =>
    simp_arith only [f__law_over, c__law_over, lnv_0, h, cut_1]
    simp [ov, h]
theorem tline_ok : f_turned_line [lnv t t' L] = .ok (lnv true true (tnL L)) := by
  rw [wpP_eq]
  simp_arith only [f_turned_line, c_turned_line, lnv]
  simp [tnL, iv]
theorem turned_ok {xs : List PV} {p : PV} : f_turned [p, sq t xs] = .ok (.tup xs.reverse) := by
  rw [wpP_eq]; simp_arith only [f_turned, c_turned]
theorem twidths_ok (hz : ws.length ≤ 1000) : f_turned_widths [lnv t t' L, sq t1 (wvs ws)] = .ok (.tup (wvs (ov L ws))) := by
  rw [wpP_eq, ov_wvs]
  have hz2 : (wvs ws).length ≤ 1000 := by simpa [wvs] using hz
  cases h : L.ring with
  | true =>
    simp_arith only [f_turned_widths, c_turned_widths, h, cut_1]
    rw [if_pos (Nat.le_of_lt (sz _ (by simp; omega)))]
    simp [ov, h]
  | false =>
    simp_arith only [f_turned_widths, c_turned_widths, h, cut_1]
    simp [ov, h]
theorem lacking_ok (hs : st.length = L.rooms.length) (hn : L.rooms.length ≤ 900) : f_lacking [lnv t t' L, sq t1 (iv st)] = .ok (.tup (iv (List.zipWith (fun a b => b - a) st L.rooms))) := by
  rw [wpP_eq]
  simp_arith only [f_lacking, c_lacking, lnv_1, hs]
  unfold iv
  rw [zip_pair]
  refine wpC_list (fun p => .int (p.2 - p.1)) (by simp; omega) (fun p _ => ?_) ?_
  · simp_arith only [pairP]
  · simp_arith only []
    rw [zmap (fun x y => PV.int (y - x))]
    simp [List.map_zipWith]
theorem holes_ok (hs : st.length = L.rooms.length) (hn : L.rooms.length ≤ 900) : f__law_holes [lnv t t' L, sq t1 (iv st)] = .ok (.tup (iv (hl L st))) := by
  rw [wpP_eq]
  have := turned_ok (t := true) (xs := iv (List.zipWith (fun a b => b - a) st L.rooms)) (p := lnv t t' L)
  rw [sq_t] at this
  simp_arith only [f__law_holes, c__law_holes, lacking_ok hs hn, this]
  simp [hl, iv]
end
end Ev

set_option maxHeartbeats 2000000
set_option linter.all false
set_option Elab.async false
set_option maxRecDepth 100000
namespace Ev
open PySem L2
local macro_rules | `(tactic| simp_arith only [$ls,*]) => `(tactic| simp -implicitDefEqProofs only [Nat.reduceSub, Nat.reduceAdd, Int.reduceLT, Int.reduceLE, Int.reduceGT, Int.reduceGE, Int.reduceEq, Int.reducePow, Nat.reducePow, Nat.reduceMul, Int.reduceNeg, Int.reduceToNat, Int.reduceAbs, Int.reduceMod, Int.reduceDiv, Int.reduceAdd, Int.reduceSub, Int.reduceMul, Nat.reduceLT, Nat.reduceLeDiff, Nat.reduceEqDiff, decide_eq_true_eq, decide_true, decide_false, and_true, true_and, true_or, or_true, false_or, or_false, and_false, false_and, if_false, ite_true, ite_false, PV.int.injEq, PV.bl.injEq, exists_eq_left', Bool.not_true, Bool.not_false, Bool.false_eq_true, not_true_eq_false, not_false_eq_true, reduceCtorEq, Option.some.injEq, wp_ok, wp_exc, wp_bad, wo_some, wo_none, wo_if, wo_map, wo_bind, wp_of, ws_nx, ws_rt, ws_rf, ws_bk, ws_ct, ws_exc, ws_bad, wp_name, wp_c, wp_m2, wp_m1, wp_test, wp_truthN, wp_sumN, wp_lenN, wp_ixN, wp_and, wp_or, wp_notT, wp_andV, wp_orV, wp_notV, wp_if, wp_ifF, wp_args0, wp_args1, wp_tup, wp_frz, wp_callB, wp_callF, wp_cat, wp_repL, wp_chain, wp_cut, wp_part0, wp_part1, wp_call, wp_callFr, wp_callBx, wp_popN, wp_index, wp_yes, wp_seqI, wp_range, wp_revI, wp_zip, wp_zipB, wp_zipS, wp_enum, wp_zip3, wp_enZ, wp_callK, wp_callKF, wp_callBxF, wp_cps0, wp_cps1, wp_cpv, wp_cpf, ws_parG, ws_seq, ws_nil, ws_never, ws_pass, ws_ret, ws_retF, ws_retN, ws_set, ws_setF, ws_if, ws_asg, ws_par, ws_par3, ws_parF, ws_aug, ws_append, ws_setIx, ws_reverse, ws_clear, ws_extend, ws_popAt, ws_insert, wp_cmpN, wp_callBr, wpP_runP, wpF_runF, wpB_runB, wpP_ok, wpF_ok, wpP_exc, wpB_ok, ws_for', ws_forNil, wp_comp, wpC_nil, ev_g0, ev_gs, ev_gn, ev_s0, ev_ss, ev_m0, ev_m1, ev_a0, ev_a1, ev_r0, ev_rs, ev_l0, ev_l1, ev_d0, ev_d1, ev_ob, ev_om, ev_it, ev_if, ev_gl, ev_gl1, ev_dl, ev_dl1, ev_gla, ev_dla, add_ii, addI_ii, sub_ii, add_ll, add_tt, mod_ii, div_ii, pow_ii, mul_ii, mul_li, lt_ii, le_ii, gt_ii, ge_ii, neg_i, eq_ii, ne_ii, eq_bb, ne_bb, xor_f, xor_t, eq_str, ne_str, is_bb, isnot_bb, is_n, is_in, is_sn, is_bn, is_tn, is_ln, isnot_n, isnot_in, truth_b, truth_i, truth_l, truth_t, len_l, len_t, len_s, ix_l, ix_t, ix_s, seq_l, seq_t, seq_s, tuple_l, tuple_t, list_l, list_t, list_s, on1_p, abs_i, int_b, int_i, max_ii, min_ii, max1_l, min1_l, rev_l, rev_t, zip_ll, zip_tt, cat_ll, range_1, range_2, slot_0, slot_s, zip3_lll, zip3_llt, zip3_ltl, zip3_ltt, zip3_tll, zip3_tlt, zip3_ttl, zip3_ttt, zipB_ll, zipB_tt, zipB_lt, zipB_tl, zipS_ll, zipS_tt, zipS_lt, zipS_tl, omap_en, enum_l, enum_t, down_l, down_t, down_t0, setAll_0, setAll_1, atom_n, atom_b, atom_i, atom_s, permP_0, permP_1, getD_0, getD_s, isi_int_i, isi_int_b, isi_bool_i, isi_bool_b, isi_tup_t, isi_tup_l, isi_lst_l, isi_lst_t, isi_str_s, isi_str_i, isi_str_b, isi_str_n, isi_lt_l, isi_lt_t, isi_lt_i, isi_lt_b, isi_lt_s, isi_lt_n, at_0, at_1, at_2, at_3, at_last, mg_name, mg_tup, mg_lst, mg_nil, mg_cons, own0_own, startR_eq, wipe_0, wipe_1, back_0, back_1, ixN_3_0, ixN_3_1, ixN_3_2, szl, sze, wp_dict, eq_ints, eq_ww, eq_wf, sq_t, sq_f, ix_sq, len_sq, tuple_sq, list_sq, seq_sq, revI_sq, mg_sq, zipS_sq, zipS_st, zipS_ts, zipB_sq, zipB_st, zipB_ts, eq_fm, eq_fmr, iv_len, wvs_len, isring_ok, bins_ok, gates_ok, behind_ok, ahead_ok, out_ok, eq_iv, ne_iv, lnv_0, lnv_1, $ls,*])
/-! beats forth and back are mates -/
theorem foldl_min_le (l : List Int) (a x : Int) : x ≤ l.foldl min a ↔ x ≤ a ∧ ∀ b ∈ l, x ≤ b := by
  induction l generalizing a with
  | nil => simp
  | cons b l ih => simp only [List.foldl_cons, ih, List.mem_cons, forall_eq_or_imp, Int.le_min]; exact ⟨fun h => ⟨h.1.1, h.1.2, h.2⟩, fun h => ⟨⟨h.1, h.2.1⟩, h.2.2⟩⟩
theorem le_minO {l : List Int} (h : l ≠ []) (x : Int) : x ≤ minO l ↔ ∀ b ∈ l, x ≤ b := by
  cases l with
  | nil => exact absurd rfl h
  | cons a l => simp only [minO, foldl_min_le, List.mem_cons, forall_eq_or_imp]
theorem bnds_ne {L : Ln} {ws : List (Option Int)} {st : List Int} {w : Bool} {g : Nat} (hn : 0 < L.rooms.length) (hg : g < L.ng) : bnds L ws st w g ≠ [] := by
  unfold bnds
  unfold Ln.ng at hg
  cases hr : L.ring with
  | true => cases w <;> simp [Ln.bh, Ln.ah, hr, tl1]
  | false =>
    simp only [hr, Bool.false_eq_true, if_false] at hg
    by_cases h0 : 0 < g
    · cases w <;> simp [Ln.bh, Ln.ah, hr, tl1, h0]
    · have : g < L.rooms.length := by omega
      cases w <;> simp [Ln.bh, Ln.ah, hr, tl1, this]
theorem le_gs {L : Ln} {ws : List (Option Int)} {st : List Int} {w : Bool} {g : Nat} (hn : 0 < L.rooms.length) (hg : g < L.ng) (x : Int) :
    x ≤ gs L ws st w g ↔ (∀ v, ws.getD g none = some v → x ≤ v) ∧ (∀ j, L.bh g = some j → x ≤ if w then st.getD j 0 else L.rooms.getD j 0 - st.getD j 0) ∧ (∀ j, L.ah g = some j → x ≤ if w then L.rooms.getD j 0 - st.getD j 0 else st.getD j 0) := by
  unfold gs
  rw [le_minO (bnds_ne hn hg)]
  unfold bnds
  cases w <;> cases hw : ws.getD g none <;> cases hb : L.bh g <;> cases ha : L.ah g <;> simp [tl1] <;> omega
theorem bh_iff {L : Ln} {g j : Nat} (hn : 0 < L.rooms.length) (hg : g < L.ng) : L.bh g = some j ↔ j < L.rooms.length ∧ L.go j = g := by
  unfold Ln.ng at hg
  unfold Ln.bh Ln.go
  cases hr : L.ring with
  | true =>
    simp only [hr, if_true, Option.some.injEq] at hg ⊢
    constructor
    · intro h
      subst h
      refine ⟨Nat.mod_lt _ hn, ?_⟩
      by_cases h0 : g = 0
      · subst h0
        rw [Nat.zero_add, Nat.mod_eq_of_lt (show L.rooms.length - 1 < L.rooms.length by omega), show L.rooms.length - 1 + 1 = L.rooms.length by omega, Nat.mod_self]
      · rw [show g + (L.rooms.length - 1) = (g - 1) + L.rooms.length by omega, Nat.add_mod_right, Nat.mod_eq_of_lt (show g - 1 < L.rooms.length by omega), show g - 1 + 1 = g by omega, Nat.mod_eq_of_lt hg]
    · rintro ⟨hj, h⟩
      subst h
      by_cases h0 : j + 1 = L.rooms.length
      · rw [h0, Nat.mod_self, Nat.zero_add, Nat.mod_eq_of_lt (by omega)]; omega
      · rw [Nat.mod_eq_of_lt (show j + 1 < L.rooms.length by omega), show j + 1 + (L.rooms.length - 1) = j + L.rooms.length by omega, Nat.add_mod_right, Nat.mod_eq_of_lt hj]
  | false =>
    simp only [hr, Bool.false_eq_true, if_false] at hg ⊢
    by_cases h0 : 0 < g
    · rw [if_pos h0]
      simp only [Option.some.injEq]
      omega
    · rw [if_neg h0]
      simp
      omega
theorem ah_iff {L : Ln} {g j : Nat} (hg : g < L.ng) : L.ah g = some j ↔ j < L.rooms.length ∧ j = g := by
  unfold Ln.ng at hg
  unfold Ln.ah
  cases hr : L.ring with
  | true => simp only [hr, if_true, Option.some.injEq] at hg ⊢; omega
  | false =>
    simp only [hr, Bool.false_eq_true, if_false] at hg ⊢
    by_cases h0 : g < L.rooms.length
    · rw [if_pos h0]; simp only [Option.some.injEq]; omega
    · rw [if_neg h0]; simp; omega
/-- counts, gate by gate -/
def le (L : Ln) (x y : List Int) : Prop := ∀ g, g < L.ng → x.getD g 0 ≤ y.getD g 0
def add (x y : List Int) : List Int := List.zipWith (· + ·) x y
theorem add_getD {x y : List Int} {g : Nat} (h1 : g < x.length) (h2 : g < y.length) : (add x y).getD g 0 = x.getD g 0 + y.getD g 0 := by
  simp [add, List.getD, List.getElem?_zipWith, List.getElem?_eq_getElem h1, List.getElem?_eq_getElem h2]
theorem add_len (x y : List Int) : (add x y).length = min x.length y.length := by simp [add]
/-- a step from counts c, of what lies where at first s -/
def stp (L : Ln) (s c : List Int) (r : Bt) : List Int := add c (sg (mv L r.2 (bc L s c) r.1) r.1)
section
variable {L : Ln} {s : List Int}
theorem stp_len {c : List Int} {r : Bt} (hc : c.length = L.ng) : (stp L s c r).length = L.ng := by simp [stp, add_len, hc]
theorem bc_getD {c : List Int} {j : Nat} (hj : j < L.rooms.length) : (bc L s c).getD j 0 = s.getD j 0 + c.getD j 0 - c.getD (L.go j) 0 := by
  unfold bc; rw [getD_range hj]
theorem sg_getD {c : List Int} {w : Bool} {g : Nat} (hg : g < c.length) : (sg c w).getD g 0 = if w then c.getD g 0 else -(c.getD g 0) := by
  cases w with
  | true => rfl
  | false => simp only [sg, Bool.false_eq_true, if_false]; rw [getD_map0 hg]
theorem stp_getD {c : List Int} {r : Bt} {g : Nat} (hc : c.length = L.ng) (hg : g < L.ng) : (stp L s c r).getD g 0 = c.getD g 0 + if r.1 then gs L r.2 (bc L s c) r.1 g else -(gs L r.2 (bc L s c) r.1 g) := by
  unfold stp
  rw [add_getD (by omega) (by simpa using hg), sg_getD (by simpa using hg)]
  unfold mv
  rw [getD_range hg]
/-- how both are tied -/
structure Tie (L : Ln) (s : List Int) (ws : List (Option Int)) (x y : List Int) : Prop where
  w : ∀ g, g < L.ng → ∀ v, ws.getD g none = some v → x.getD g 0 ≤ y.getD g 0 + v
  o : ∀ j, j < L.rooms.length → x.getD (L.go j) 0 ≤ s.getD j 0 + y.getD j 0
  i : ∀ j, j < L.rooms.length → x.getD j 0 ≤ L.rooms.getD j 0 - s.getD j 0 + y.getD (L.go j) 0
theorem tie_forth {ws : List (Option Int)} {x y : List Int} (hn : 0 < L.rooms.length) (hy : y.length = L.ng) : le L x (stp L s y (true, ws)) ↔ Tie L s ws x y := by
  constructor
  · intro h
    have k : ∀ g, g < L.ng → _ := fun g hg => (le_gs (L := L) (ws := ws) (st := bc L s y) (w := true) hn hg (x.getD g 0 - y.getD g 0)).mp (by
      have := h g hg
      rw [stp_getD hy hg] at this
      simp only [if_true] at this
      omega)
    refine ⟨fun g hg v hv => by have := (k g hg).1 v hv; omega, fun j hj => ?_, fun j hj => ?_⟩
    · have := (k (L.go j) (go_lt hn hj)).2.1 j ((bh_iff hn (go_lt hn hj)).mpr ⟨hj, rfl⟩)
      simp only [if_true] at this
      rw [bc_getD hj] at this
      omega
    · have hg : j < L.ng := Nat.lt_of_lt_of_le hj ng_ge
      have := (k j hg).2.2 j ((ah_iff hg).mpr ⟨hj, rfl⟩)
      simp only [if_true] at this
      rw [bc_getD hj] at this
      omega
  · intro t g hg
    rw [stp_getD hy hg]
    simp only [if_true]
    have := (le_gs (L := L) (ws := ws) (st := bc L s y) (w := true) hn hg (x.getD g 0 - y.getD g 0)).mpr ⟨fun v hv => by have := t.w g hg v hv; omega, fun j hj => ?_, fun j hj => ?_⟩
    · omega
    · obtain ⟨hj', rfl⟩ := (bh_iff hn hg).mp hj
      simp only [if_true]
      rw [bc_getD hj']
      have := t.o j hj'
      omega
    · obtain ⟨hj', rfl⟩ := (ah_iff hg).mp hj
      simp only [if_true]
      rw [bc_getD hj']
      have := t.i j hj'
      omega
theorem tie_back {ws : List (Option Int)} {x y : List Int} (hn : 0 < L.rooms.length) (hx : x.length = L.ng) : le L (stp L s x (false, ws)) y ↔ Tie L s ws x y := by
  constructor
  · intro h
    have k : ∀ g, g < L.ng → _ := fun g hg => (le_gs (L := L) (ws := ws) (st := bc L s x) (w := false) hn hg (x.getD g 0 - y.getD g 0)).mp (by
      have := h g hg
      rw [stp_getD hx hg] at this
      simp only [Bool.false_eq_true, if_false] at this
      omega)
    refine ⟨fun g hg v hv => by have := (k g hg).1 v hv; omega, fun j hj => ?_, fun j hj => ?_⟩
    · have hg : j < L.ng := Nat.lt_of_lt_of_le hj ng_ge
      have := (k j hg).2.2 j ((ah_iff hg).mpr ⟨hj, rfl⟩)
      simp only [Bool.false_eq_true, if_false] at this
      rw [bc_getD hj] at this
      omega
    · have := (k (L.go j) (go_lt hn hj)).2.1 j ((bh_iff hn (go_lt hn hj)).mpr ⟨hj, rfl⟩)
      simp only [Bool.false_eq_true, if_false] at this
      rw [bc_getD hj] at this
      omega
  · intro t g hg
    rw [stp_getD hx hg]
    simp only [Bool.false_eq_true, if_false]
    have := (le_gs (L := L) (ws := ws) (st := bc L s x) (w := false) hn hg (x.getD g 0 - y.getD g 0)).mpr ⟨fun v hv => by have := t.w g hg v hv; omega, fun j hj => ?_, fun j hj => ?_⟩
    · omega
    · obtain ⟨hj', rfl⟩ := (bh_iff hn hg).mp hj
      simp only [Bool.false_eq_true, if_false]
      rw [bc_getD hj']
      have := t.i j hj'
      omega
    · obtain ⟨hj', rfl⟩ := (ah_iff hg).mp hj
      simp only [Bool.false_eq_true, if_false]
      rw [bc_getD hj']
      have := t.o j hj'
      omega
theorem le_refl (x : List Int) : le L x x := fun _ _ => Int.le_refl _
theorem le_trans {x y z : List Int} (h : le L x y) (k : le L y z) : le L x z := fun g hg => Int.le_trans (h g hg) (k g hg)
theorem le_anti {x y : List Int} (hx : x.length = L.ng) (hy : y.length = L.ng) (h : le L x y) (k : le L y x) : x = y :=
  ext_getD (d := 0) (by omega) fun g hg => Int.le_antisymm (h g (by omega)) (k g (by omega))
/-- mates -/
structure GC (L : Ln) (f b : List Int → List Int) : Prop where
  fl : ∀ c, c.length = L.ng → (f c).length = L.ng
  bl : ∀ c, c.length = L.ng → (b c).length = L.ng
  gc : ∀ x y, x.length = L.ng → y.length = L.ng → (le L (b x) y ↔ le L x (f y))
theorem GC.one (hn : 0 < L.rooms.length) (ws : List (Option Int)) : GC L (fun c => stp L s c (true, ws)) (fun c => stp L s c (false, ws)) :=
  ⟨fun c h => stp_len h, fun c h => stp_len h, fun x y hx hy => (tie_back hn hx).trans (tie_forth hn hy).symm⟩
theorem GC.id : GC L (fun c => c) (fun c => c) := ⟨fun _ h => h, fun _ h => h, fun _ _ _ _ => Iff.rfl⟩
theorem GC.comp {f b f' b' : List Int → List Int} (h : GC L f b) (k : GC L f' b') : GC L (fun c => f' (f c)) (fun c => b (b' c)) :=
  ⟨fun c hc => k.fl _ (h.fl c hc), fun c hc => h.bl _ (k.bl c hc), fun x y hx hy => (h.gc _ _ (k.bl x hx) hy).trans (k.gc x _ hx (h.fl y hy))⟩
theorem GC.fbf {f b : List Int → List Int} (h : GC L f b) {c : List Int} (hc : c.length = L.ng) : f (b (f c)) = f c := by
  have l1 := h.fl c hc
  have l2 := h.bl _ l1
  refine le_anti (h.fl _ l2) l1 ?_ ((h.gc _ _ l1 l2).mp (le_refl _))
  refine (h.gc (f (b (f c))) c (h.fl _ l2) hc).mp (le_trans ((h.gc _ _ (h.fl _ l2) l2).mpr (le_refl _)) ((h.gc _ _ l1 hc).mpr (le_refl _)))
theorem GC.bfb {f b : List Int → List Int} (h : GC L f b) {c : List Int} (hc : c.length = L.ng) : b (f (b c)) = b c := by
  have l1 := h.bl c hc
  have l2 := h.fl _ l1
  refine le_anti (h.bl _ l2) l1 ((h.gc _ _ l2 l1).mpr (le_refl _)) ?_
  refine (h.gc c (b (f (b c))) hc (h.bl _ l2)).mpr (le_trans ((h.gc _ _ hc l1).mp (le_refl _)) ((h.gc _ _ l2 (h.bl _ l2)).mp (le_refl _)))
/-- counts behind a run -/
def cnt (L : Ln) (s : List Int) (run : List Bt) (c : List Int) : List Int := run.foldl (stp L s) c
theorem cnt_len {run : List Bt} {c : List Int} (hc : c.length = L.ng) : (cnt L s run c).length = L.ng := by
  induction run generalizing c with
  | nil => exact hc
  | cons r run ih => exact ih (stp_len hc)
theorem cnt_app {a b : List Bt} {c : List Int} : cnt L s (a ++ b) c = cnt L s b (cnt L s a c) := by simp [cnt]
def tb (run : List Bt) : List Bt := run.reverse.map fun r => (!r.1, r.2)
theorem GC.run (hn : 0 < L.rooms.length) : ∀ wss : List (List (Option Int)), GC L (cnt L s (wss.map fun v => (true, v))) (cnt L s (tb (wss.map fun v => (true, v))))
  | [] => GC.id
  | ws :: wss => by
    have h := (GC.one (s := s) hn ws).comp (GC.run hn wss)
    have e : tb ((ws :: wss).map fun v => (true, v)) = tb (wss.map fun v => (true, v)) ++ [(false, ws)] := by simp [tb]
    refine ⟨h.fl, fun c hc => cnt_len hc, fun x y hx hy => ?_⟩
    rw [e, cnt_app]
    exact h.gc x y hx hy
theorem tb_tb (run : List Bt) : tb (tb run) = run := by simp [tb, Function.comp_def]
/-- done, taken back and done once more -/
theorem cnt_thrice (hn : 0 < L.rooms.length) (w : Bool) (wss : List (List (Option Int))) {c : List Int} (hc : c.length = L.ng) :
    cnt L s (wss.map fun v => (w, v)) (cnt L s (tb (wss.map fun v => (w, v))) (cnt L s (wss.map fun v => (w, v)) c)) = cnt L s (wss.map fun v => (w, v)) c ∧
    cnt L s (tb (wss.map fun v => (w, v))) (cnt L s (wss.map fun v => (w, v)) (cnt L s (tb (wss.map fun v => (w, v))) c)) = cnt L s (tb (wss.map fun v => (w, v))) c := by
  cases w with
  | true => exact ⟨(GC.run hn wss).fbf hc, (GC.run hn wss).bfb hc⟩
  | false =>
    have e : wss.map (fun v => ((false, v) : Bt)) = tb (wss.reverse.map fun v => (true, v)) := by simp [tb, Function.comp_def]
    rw [e, tb_tb]
    exact ⟨(GC.run hn wss.reverse).bfb hc, (GC.run hn wss.reverse).fbf hc⟩
/-! what lies where by counts -/
theorem bc_add {c d : List Int} (hn : 0 < L.rooms.length) (hc : c.length = L.ng) (hd : d.length = L.ng) : bc L (bc L s c) d = bc L s (add c d) := by
  refine ext_getD (d := 0) (by simp) fun j hj => ?_
  replace hj : j < L.rooms.length := by simpa using hj
  have h1 : j < L.ng := Nat.lt_of_lt_of_le hj ng_ge
  have h2 := go_lt hn hj
  rw [bc_getD hj, bc_getD hj, bc_getD hj, add_getD (by omega) (by omega), add_getD (by omega) (by omega)]
  omega
def zr (L : Ln) : List Int := List.replicate L.ng 0
theorem zr_len : (zr L).length = L.ng := by simp [zr]
theorem zr_getD {g : Nat} : (zr L).getD g 0 = 0 := by simp [zr, List.getD, List.getElem?_replicate]; split <;> simp
theorem bc_zr (hs : s.length = L.rooms.length) : bc L s (zr L) = s := by
  refine ext_getD (d := 0) (by simp [hs]) fun j hj => ?_
  replace hj : j < L.rooms.length := by simpa using hj
  rw [bc_getD hj, zr_getD, zr_getD]; omega
theorem add_zr {c : List Int} (hc : c.length = L.ng) : add c (zr L) = c := by
  refine ext_getD (d := 0) (by simp [add_len, zr_len, hc]) fun g hg => ?_
  have : g < L.ng := by simpa [add_len, zr_len, hc] using hg
  rw [add_getD (by omega) (by rw [zr_len]; exact this), zr_getD]; omega
theorem zr_add {c : List Int} (hc : c.length = L.ng) : add (zr L) c = c := by
  refine ext_getD (d := 0) (by simp [add_len, zr_len, hc]) fun g hg => ?_
  have : g < L.ng := by simpa [add_len, zr_len, hc] using hg
  rw [add_getD (by rw [zr_len]; exact this) (by omega), zr_getD]; omega
theorem add_assoc' (a b c : List Int) : add (add a b) c = add a (add b c) := by
  unfold add
  induction a generalizing b c with
  | nil => simp
  | cons x a ih => cases b with
    | nil => simp
    | cons y b => cases c with
      | nil => simp
      | cons z c => simp [ih, Int.add_assoc]
/-- a run by its counts -/
theorem ldF_cnt (hn : 0 < L.rooms.length) : ∀ (run : List Bt) (c : List Int), c.length = L.ng → run.foldl (ldS L) (bc L s c, c) = (bc L s (cnt L s run c), cnt L s run c)
  | [], c, hc => rfl
  | r :: run, c, hc => by
    have e : ldS L (bc L s c, c) r = (bc L s (stp L s c r), stp L s c r) := by
      simp only [ldS, bt]
      rw [bc_add hn hc (by simp)]
      rfl
    rw [List.foldl_cons, e]
    exact ldF_cnt hn run (stp L s c r) (stp_len hc)
theorem ld_cnt (hn : 0 < L.rooms.length) (hs : s.length = L.rooms.length) (run : List Bt) : ld L s run = (bc L s (cnt L s run (zr L)), cnt L s run (zr L)) := by
  have := ldF_cnt (s := s) hn run (zr L) zr_len
  rw [bc_zr hs] at this
  exact this
/-- from another standing -/
theorem stp_shift {c d : List Int} {r : Bt} (hn : 0 < L.rooms.length) (hc : c.length = L.ng) (hd : d.length = L.ng) : add c (stp L (bc L s c) d r) = stp L s (add c d) r := by
  unfold stp
  rw [bc_add hn hc hd, add_assoc']
theorem cnt_shift (hn : 0 < L.rooms.length) : ∀ (run : List Bt) {c d : List Int}, c.length = L.ng → d.length = L.ng → add c (cnt L (bc L s c) run d) = cnt L s run (add c d)
  | [], c, d, hc, hd => rfl
  | r :: run, c, d, hc, hd => by
    show add c (cnt L (bc L s c) run (stp L (bc L s c) d r)) = cnt L s run (stp L s (add c d) r)
    rw [cnt_shift hn run hc (stp_len hd), stp_shift hn hc hd]
theorem add_cancel {a b : List Int} (ha : a.length = L.ng) (hb : b.length = L.ng) (h : add a b = a) : b = zr L := by
  refine ext_getD (d := 0) (by rw [zr_len, hb]) fun g hg => ?_
  have hg' : g < L.ng := by omega
  have this : (add a b).getD g 0 = a.getD g 0 := by rw [h]
  rw [add_getD (by omega) (by omega)] at this
  rw [zr_getD]; omega
end
end Ev

set_option maxHeartbeats 2000000
set_option linter.all false
set_option Elab.async false
set_option maxRecDepth 100000
namespace Ev
open PySem L2
local macro_rules | `(tactic| simp_arith only [$ls,*]) => `(tactic| simp -implicitDefEqProofs only [Nat.reduceSub, Nat.reduceAdd, Int.reduceLT, Int.reduceLE, Int.reduceGT, Int.reduceGE, Int.reduceEq, Int.reducePow, Nat.reducePow, Nat.reduceMul, Int.reduceNeg, Int.reduceToNat, Int.reduceAbs, Int.reduceMod, Int.reduceDiv, Int.reduceAdd, Int.reduceSub, Int.reduceMul, Nat.reduceLT, Nat.reduceLeDiff, Nat.reduceEqDiff, decide_eq_true_eq, decide_true, decide_false, and_true, true_and, true_or, or_true, false_or, or_false, and_false, false_and, if_false, ite_true, ite_false, PV.int.injEq, PV.bl.injEq, exists_eq_left', Bool.not_true, Bool.not_false, Bool.false_eq_true, not_true_eq_false, not_false_eq_true, reduceCtorEq, Option.some.injEq, wp_ok, wp_exc, wp_bad, wo_some, wo_none, wo_if, wo_map, wo_bind, wp_of, ws_nx, ws_rt, ws_rf, ws_bk, ws_ct, ws_exc, ws_bad, wp_name, wp_c, wp_m2, wp_m1, wp_test, wp_truthN, wp_sumN, wp_lenN, wp_ixN, wp_and, wp_or, wp_notT, wp_andV, wp_orV, wp_notV, wp_if, wp_ifF, wp_args0, wp_args1, wp_tup, wp_frz, wp_callB, wp_callF, wp_cat, wp_repL, wp_chain, wp_cut, wp_part0, wp_part1, wp_call, wp_callFr, wp_callBx, wp_popN, wp_index, wp_yes, wp_seqI, wp_range, wp_revI, wp_zip, wp_zipB, wp_zipS, wp_enum, wp_zip3, wp_enZ, wp_callK, wp_callKF, wp_callBxF, wp_cps0, wp_cps1, wp_cpv, wp_cpf, ws_parG, ws_seq, ws_nil, ws_never, ws_pass, ws_ret, ws_retF, ws_retN, ws_set, ws_setF, ws_if, ws_asg, ws_par, ws_par3, ws_parF, ws_aug, ws_append, ws_setIx, ws_reverse, ws_clear, ws_extend, ws_popAt, ws_insert, wp_cmpN, wp_callBr, wpP_runP, wpF_runF, wpB_runB, wpP_ok, wpF_ok, wpP_exc, wpB_ok, ws_for', ws_forNil, wp_comp, wpC_nil, ev_g0, ev_gs, ev_gn, ev_s0, ev_ss, ev_m0, ev_m1, ev_a0, ev_a1, ev_r0, ev_rs, ev_l0, ev_l1, ev_d0, ev_d1, ev_ob, ev_om, ev_it, ev_if, ev_gl, ev_gl1, ev_dl, ev_dl1, ev_gla, ev_dla, add_ii, addI_ii, sub_ii, add_ll, add_tt, mod_ii, div_ii, pow_ii, mul_ii, mul_li, lt_ii, le_ii, gt_ii, ge_ii, neg_i, eq_ii, ne_ii, eq_bb, ne_bb, xor_f, xor_t, eq_str, ne_str, is_bb, isnot_bb, is_n, is_in, is_sn, is_bn, is_tn, is_ln, isnot_n, isnot_in, truth_b, truth_i, truth_l, truth_t, len_l, len_t, len_s, ix_l, ix_t, ix_s, seq_l, seq_t, seq_s, tuple_l, tuple_t, list_l, list_t, list_s, on1_p, abs_i, int_b, int_i, max_ii, min_ii, max1_l, min1_l, rev_l, rev_t, zip_ll, zip_tt, cat_ll, range_1, range_2, slot_0, slot_s, zip3_lll, zip3_llt, zip3_ltl, zip3_ltt, zip3_tll, zip3_tlt, zip3_ttl, zip3_ttt, zipB_ll, zipB_tt, zipB_lt, zipB_tl, zipS_ll, zipS_tt, zipS_lt, zipS_tl, omap_en, enum_l, enum_t, down_l, down_t, down_t0, setAll_0, setAll_1, atom_n, atom_b, atom_i, atom_s, permP_0, permP_1, getD_0, getD_s, isi_int_i, isi_int_b, isi_bool_i, isi_bool_b, isi_tup_t, isi_tup_l, isi_lst_l, isi_lst_t, isi_str_s, isi_str_i, isi_str_b, isi_str_n, isi_lt_l, isi_lt_t, isi_lt_i, isi_lt_b, isi_lt_s, isi_lt_n, at_0, at_1, at_2, at_3, at_last, mg_name, mg_tup, mg_lst, mg_nil, mg_cons, own0_own, startR_eq, wipe_0, wipe_1, back_0, back_1, ixN_3_0, ixN_3_1, ixN_3_2, szl, sze, wp_dict, eq_ints, eq_ww, eq_wf, sq_t, sq_f, ix_sq, len_sq, tuple_sq, list_sq, seq_sq, revI_sq, mg_sq, zipS_sq, zipS_st, zipS_ts, zipB_sq, zipB_st, zipB_ts, eq_fm, eq_fmr, iv_len, wvs_len, isring_ok, bins_ok, gates_ok, behind_ok, ahead_ok, out_ok, eq_iv, ne_iv, lnv_0, lnv_1, $ls,*])
/-! what lies is kept -/
theorem range_iv (st : List Int) : iv st = (List.range st.length).map fun j => PV.int (st.getD j 0) := by
  unfold iv
  apply List.ext_getElem?
  intro i
  by_cases h : i < st.length
  · rw [List.getElem?_map, List.getElem?_map, List.getElem?_range h, List.getElem?_eq_getElem h]
    simp [List.getD, h]
  · rw [List.getElem?_eq_none (by simp; omega), List.getElem?_eq_none (by simp; omega)]
theorem en_zip {n : Nat} (f g : Nat → PV) : enumP (List.zipWith pairP ((List.range n).map f) ((List.range n).map g)) = (List.range n).map fun j => pairP (.int (j : Nat)) (pairP (f j) (g j)) := by
  unfold enumP
  apply List.ext_getElem?
  intro i
  rw [List.getElem?_mapIdx, List.getElem?_zipWith]
  by_cases h : i < n
  · rw [List.getElem?_map, List.getElem?_map, List.getElem?_map, List.getElem?_range h]
    rfl
  · rw [List.getElem?_eq_none (l := (List.range n).map f) (by simp; omega), List.getElem?_eq_none (l := (List.range n).map fun j => pairP (.int (j : Nat)) (pairP (f j) (g j))) (by simp; omega)]
    rfl
section
variable {t t' t1 t2 t3 : Bool} {L : Ln} {ws : List (Option Int)} {st cs : List Int} {w : Bool}
theorem go_mod (hn : 0 < L.rooms.length) {j : Nat} (hj : j < L.rooms.length) : (((j : Int) + 1) % (L.ng : Int)) = ((L.go j : Nat) : Int) := by
  unfold Ln.ng Ln.go
  cases L.ring with
  | true => simp
  | false =>
    simp only [Bool.false_eq_true, if_false]
    rw [Int.emod_eq_of_lt (by omega) (by omega)]
    omega
theorem put_ok (hn : 0 < L.rooms.length) (h1 : L.rooms.length ≤ 900) (hs : st.length = L.rooms.length) (hc : cs.length = L.ng) : f__law_put [lnv t t' L, sq t2 (iv st), sq t3 (iv cs)] = .ok (.tup (iv (bc L st cs))) := by
  have hng := ng_le L h1
  have hg : 0 < L.ng := Nat.lt_of_lt_of_le hn ng_ge
  rw [wpP_eq]
  simp_arith only [f__law_put, c__law_put, hs, hc]
  rw [if_pos (by omega)]
  simp only [Int.toNat_natCast]
  refine wpC_range (fun j => .int ((L.go j : Nat) : Int)) (by omega) (fun j hj => ?_) ?_
  · have h2 : (0 : Int) < L.ng := by omega
    have h3 := go_mod hn hj
    rw [← hc] at h2 h3
    simp_arith only [h2, h3]
  · have e : iv st = (List.range L.rooms.length).map fun j => PV.int (st.getD j 0) := by rw [← hs]; exact range_iv st
    have ez : pvZipB [sq t2 (iv st), .lst ((List.range L.rooms.length).map fun j => PV.int ((L.go j : Nat) : Int))] = some (List.zipWith pairP (iv st) ((List.range L.rooms.length).map fun j => PV.int ((L.go j : Nat) : Int))) := by cases t2 <;> rfl
    simp_arith only [ez]
    rw [e, en_zip]
    refine wpC_list (fun j => .int (st.getD j 0 + cs.getD j 0 - cs.getD (L.go j) 0)) (by simp; omega) (fun j hj => ?_) ?_
    · replace hj : j < L.rooms.length := by simpa using hj
      have a2 := at_iv (l := cs) (j := j) (by rw [hc]; exact Nat.lt_of_lt_of_le hj ng_ge)
      have a3 := at_iv (l := cs) (j := L.go j) (by rw [hc]; exact go_lt hn hj)
      simp_arith only [pairP, a2, a3]
    · simp_arith only []
      simp [iv, bc]
theorem isnum_ok {i : Int} : f_is_number [.int i] = .ok (.bl true) := by
  rw [wpP_eq]
  simp_arith only [f_is_number, c_is_number]
theorem nums_ok {l : List Int} (hl : l.length ≤ 1000) : f_are_numbers [.tup (iv l)] = .ok (.bl true) := by
  rw [wpP_eq]
  simp_arith only [f_are_numbers, c_are_numbers]
  refine wpC_list (l := l) (f := PV.int) (fun _ => .bl true) (by omega) (fun a _ => ?_) ?_
  · simp_arith only [isnum_ok]
  · have ha := all_true (zs := l.map fun _ => PV.bl true) (by simp)
    simp_arith only [ha]
theorem stands_ok (h1 : L.rooms.length ≤ 900) (hS : SOk L st) : f_is_standing [lnv t t' L, .tup (iv st)] = .ok (.bl true) := by
  have hs := hS.1
  rw [wpP_eq]
  simp_arith only [f_is_standing, c_is_standing, nums_ok (l := st) (by omega), hs, zipS_ts]
  have e : iv st = (List.range L.rooms.length).map fun j => PV.int (st.getD j 0) := by rw [← hs]; exact range_iv st
  have e2 : iv L.rooms = (List.range L.rooms.length).map fun j => PV.int (L.rooms.getD j 0) := range_iv _
  rw [e, e2]
  have ez : List.zipWith pairP ((List.range L.rooms.length).map fun j => PV.int (st.getD j 0)) ((List.range L.rooms.length).map fun j => PV.int (L.rooms.getD j 0)) = (List.range L.rooms.length).map fun j => pairP (.int (st.getD j 0)) (.int (L.rooms.getD j 0)) := by
    rw [zip_pair]
    apply List.ext_getElem?
    intro i
    simp [List.getElem?_map, List.getElem?_zip_eq_some]
    by_cases h : i < L.rooms.length
    · simp [h]
    · simp [h]
  rw [ez]
  refine wpC_list (fun _ => .bl true) (by simp; omega) (fun j hj => ?_) ?_
  · replace hj : j < L.rooms.length := by simpa using hj
    obtain ⟨a, b⟩ := hS.2 j hj
    have a' : (0 ≤ st.getD j 0) = True := eq_true a
    have b' : (st.getD j 0 ≤ L.rooms.getD j 0) = True := eq_true b
    simp_arith only [pairP, a', b']
  · have ha := all_true (zs := (List.range L.rooms.length).map fun _ => PV.bl true) (by simp)
    simp_arith only [ha]
end
section
variable {L : Ln} {ws : List (Option Int)} {st : List Int} {w : Bool}
def WNn (ws : List (Option Int)) : Prop := ∀ v ∈ ws, ∀ x, v = some x → 0 ≤ x
theorem WOk.nn (h : WOk L ws) : WNn ws := fun v hv x e => (h.2 v hv x e).1
theorem WNn.at (h : WNn ws) {g : Nat} {x : Int} (e : ws.getD g none = some x) : 0 ≤ x := by
  rw [List.getD] at e
  cases e1 : ws[g]? with
  | none => rw [e1] at e; cases e
  | some v => rw [e1] at e; exact h v (List.mem_of_getElem? e1) x e
theorem gs_nn {g : Nat} (hn : 0 < L.rooms.length) (hg : g < L.ng) (hw : WNn ws) (hS : SOk L st) : 0 ≤ gs L ws st w g := by
  rw [le_gs hn hg]
  refine ⟨fun v e => hw.at e, fun j e => ?_, fun j e => ?_⟩
  · have := hS.2 j (bh_lt hn hg e)
    split <;> omega
  · have := hS.2 j (ah_lt hg e)
    split <;> omega
theorem gs_le {g : Nat} {x : Int} (hn : 0 < L.rooms.length) (hg : g < L.ng) (e : ws.getD g none = some x) : gs L ws st w g ≤ x := ((le_gs hn hg _).mp (Int.le_refl _)).1 x e
theorem gs_in {j : Nat} (hn : 0 < L.rooms.length) (hj : j < L.rooms.length) : gs L ws st w j ≤ if w then L.rooms.getD j 0 - st.getD j 0 else st.getD j 0 := by
  have hg : j < L.ng := Nat.lt_of_lt_of_le hj ng_ge
  exact ((le_gs hn hg _).mp (Int.le_refl _)).2.2 j ((ah_iff hg).mpr ⟨hj, rfl⟩)
theorem gs_out {j : Nat} (hn : 0 < L.rooms.length) (hj : j < L.rooms.length) : gs L ws st w (L.go j) ≤ if w then st.getD j 0 else L.rooms.getD j 0 - st.getD j 0 := by
  have hg : L.go j < L.ng := go_lt hn hj
  exact ((le_gs hn hg _).mp (Int.le_refl _)).2.1 j ((bh_iff hn hg).mpr ⟨hj, rfl⟩)
theorem mv_getD {g : Nat} (hg : g < L.ng) : (mv L ws st w).getD g 0 = gs L ws st w g := by unfold mv; rw [getD_range hg]
theorem SOk.bt (hn : 0 < L.rooms.length) (hw : WNn ws) (hS : SOk L st) : SOk L (bt L ws st w) := by
  refine ⟨by simp, fun j hj => ?_⟩
  have hg : j < L.ng := Nat.lt_of_lt_of_le hj ng_ge
  have hg2 : L.go j < L.ng := go_lt hn hj
  unfold Ev.bt
  rw [bc_getD hj, sg_getD (by simpa using hg), sg_getD (by simpa using hg2), mv_getD hg, mv_getD hg2]
  have a1 := gs_nn (w := w) hn hg hw hS
  have a2 := gs_nn (w := w) hn hg2 hw hS
  have a3 := gs_in (ws := ws) (st := st) (w := w) hn hj
  have a4 := gs_out (ws := ws) (st := st) (w := w) hn hj
  cases w <;> simp at * <;> omega
theorem ldF_SOk (hn : 0 < L.rooms.length) : ∀ (run : List Bt) (p : List Int × List Int), (∀ r ∈ run, WNn r.2) → SOk L p.1 → SOk L (run.foldl (ldS L) p).1
  | [], p, _, h => h
  | r :: run, p, hr, h => ldF_SOk hn run (ldS L p r) (fun q hq => hr q (List.mem_cons_of_mem _ hq)) (SOk.bt hn (hr r (List.mem_cons_self ..)) h)
theorem SOk.ld {run : List Bt} (hn : 0 < L.rooms.length) (hr : ∀ r ∈ run, WNn r.2) (hS : SOk L st) : SOk L (ld L st run).1 := ldF_SOk hn run _ hr hS
theorem SOk.btN (hn : 0 < L.rooms.length) (hw : WNn ws) : ∀ {n : Nat} {st : List Int}, SOk L st → SOk L (btN L ws w n st)
  | 0, _, h => h
  | n + 1, _, h => SOk.btN hn hw (n := n) (SOk.bt hn hw h)
theorem ld_put (hn : 0 < L.rooms.length) (hs : st.length = L.rooms.length) (run : List Bt) : bc L st (Ev.ld L st run).2 = (Ev.ld L st run).1 := by
  rw [ld_cnt hn hs]
/-- a shut gate has no count -/
theorem ldF_shut {g : Nat} (hn : 0 < L.rooms.length) (hg : g < L.ng) : ∀ (run : List Bt) (p : List Int × List Int), (∀ r ∈ run, WNn r.2 ∧ r.2.getD g none = some 0) → SOk L p.1 → p.2.length = L.ng → p.2.getD g 0 = 0 → ((run.foldl (ldS L) p).2).getD g 0 = 0
  | [], p, _, _, _, h => h
  | r :: run, p, hr, hS, hl, h => by
    obtain ⟨hw, e⟩ := hr r (List.mem_cons_self ..)
    refine ldF_shut hn hg run (ldS L p r) (fun q hq => hr q (List.mem_cons_of_mem _ hq)) (SOk.bt hn hw hS) (by simp [ldS, hl]) ?_
    have := add_getD (x := p.2) (y := sg (mv L r.2 p.1 r.1) r.1) (g := g) (by omega) (by simpa using hg)
    show (add p.2 (sg (mv L r.2 p.1 r.1) r.1)).getD g 0 = 0
    rw [this, h, sg_getD (by simpa using hg), mv_getD hg]
    have a1 := gs_nn (w := r.1) hn hg hw hS
    have a2 := gs_le (st := p.1) (w := r.1) hn hg e
    split <;> omega
theorem ld_shut {g : Nat} {run : List Bt} (hn : 0 < L.rooms.length) (hg : g < L.ng) (hr : ∀ r ∈ run, WNn r.2 ∧ r.2.getD g none = some 0) (hS : SOk L st) : ((Ev.ld L st run).2).getD g 0 = 0 :=
  ldF_shut hn hg run _ hr hS (by simp) (by simp [List.getD, List.getElem?_replicate]; split <;> simp)
/-! sums -/
theorem sum_range_map (f : Nat → Int) (n : Nat) : ((List.range (n + 1)).map f).sum = ((List.range n).map f).sum + f n := by
  rw [List.range_succ]; simp
theorem sum_getD (l : List Int) : l.sum = ((List.range l.length).map fun j => l.getD j 0).sum := by
  congr 1
  apply List.ext_getElem?
  intro i
  by_cases h : i < l.length
  · rw [List.getElem?_map, List.getElem?_range h, List.getElem?_eq_getElem h]; simp [List.getD, h]
  · rw [List.getElem?_eq_none (by omega), List.getElem?_eq_none (by simp; omega)]
theorem sum_tel (a c : Nat → Int) (n : Nat) : ((List.range n).map fun j => a j + c j - c (j + 1)).sum = ((List.range n).map a).sum + c 0 - c n := by
  induction n with
  | zero => simp
  | succ n ih => rw [sum_range_map, sum_range_map, ih]; omega
theorem bc_sum (hn : 0 < L.rooms.length) (hs : st.length = L.rooms.length) (cs : List Int) : (bc L st cs).sum = st.sum + if L.ring then 0 else cs.getD 0 0 - cs.getD L.rooms.length 0 := by
  unfold bc
  cases hr : L.ring with
  | false =>
    have e : ((List.range L.rooms.length).map fun j => st.getD j 0 + cs.getD j 0 - cs.getD (L.go j) 0) = (List.range L.rooms.length).map fun j => st.getD j 0 + cs.getD j 0 - cs.getD (j + 1) 0 := by
      apply List.map_congr_left
      intro j _
      simp [Ln.go, hr]
    rw [e, sum_tel (fun j => st.getD j 0) (fun j => cs.getD j 0), ← hs, ← sum_getD]
    simp
    omega
  | true =>
    obtain ⟨m, hm⟩ : ∃ m, L.rooms.length = m + 1 := ⟨L.rooms.length - 1, by omega⟩
    have e : ((List.range L.rooms.length).map fun j => st.getD j 0 + cs.getD j 0 - cs.getD (L.go j) 0) = (List.range L.rooms.length).map fun j => st.getD j 0 + cs.getD j 0 - (if j + 1 = L.rooms.length then cs.getD 0 0 else cs.getD (j + 1) 0) := by
      apply List.map_congr_left
      intro j hj
      have : j < L.rooms.length := by simpa using hj
      simp only [Ln.go, hr, if_true]
      split
      · rename_i h; rw [h, Nat.mod_self]
      · rw [Nat.mod_eq_of_lt (by omega)]
    have e2 : ((List.range L.rooms.length).map fun j => st.getD j 0 + cs.getD j 0 - (if j + 1 = L.rooms.length then cs.getD 0 0 else cs.getD (j + 1) 0)) = (List.range L.rooms.length).map fun j => st.getD j 0 + (if j = L.rooms.length then cs.getD 0 0 else cs.getD j 0) - (if j + 1 = L.rooms.length then cs.getD 0 0 else cs.getD (j + 1) 0) := by
      apply List.map_congr_left
      intro j hj
      have : j < L.rooms.length := by simpa using hj
      rw [if_neg (show ¬ j = L.rooms.length by omega)]
    rw [e, e2, sum_tel (fun j => st.getD j 0) (fun j => if j = L.rooms.length then cs.getD 0 0 else cs.getD j 0), ← hs, ← sum_getD]
    rw [hs, if_neg (by omega)]
    simp
end
theorem sum_iv (l : List Int) : pvSum (.tup (iv l)) = some (.int l.sum) := by
  show (intsP (l.map .int)).map _ = _
  rw [intsP_map]; rfl
end Ev

set_option maxHeartbeats 2000000
set_option linter.all false
set_option Elab.async false
set_option maxRecDepth 100000
namespace Ev
open PySem L2
local macro_rules | `(tactic| simp_arith only [$ls,*]) => `(tactic| simp -implicitDefEqProofs only [Nat.reduceSub, Nat.reduceAdd, Int.reduceLT, Int.reduceLE, Int.reduceGT, Int.reduceGE, Int.reduceEq, Int.reducePow, Nat.reducePow, Nat.reduceMul, Int.reduceNeg, Int.reduceToNat, Int.reduceAbs, Int.reduceMod, Int.reduceDiv, Int.reduceAdd, Int.reduceSub, Int.reduceMul, Nat.reduceLT, Nat.reduceLeDiff, Nat.reduceEqDiff, decide_eq_true_eq, decide_true, decide_false, and_true, true_and, true_or, or_true, false_or, or_false, and_false, false_and, if_false, ite_true, ite_false, PV.int.injEq, PV.bl.injEq, exists_eq_left', Bool.not_true, Bool.not_false, Bool.false_eq_true, not_true_eq_false, not_false_eq_true, reduceCtorEq, Option.some.injEq, wp_ok, wp_exc, wp_bad, wo_some, wo_none, wo_if, wo_map, wo_bind, wp_of, ws_nx, ws_rt, ws_rf, ws_bk, ws_ct, ws_exc, ws_bad, wp_name, wp_c, wp_m2, wp_m1, wp_test, wp_truthN, wp_sumN, wp_lenN, wp_ixN, wp_and, wp_or, wp_notT, wp_andV, wp_orV, wp_notV, wp_if, wp_ifF, wp_args0, wp_args1, wp_tup, wp_frz, wp_callB, wp_callF, wp_cat, wp_repL, wp_chain, wp_cut, wp_part0, wp_part1, wp_call, wp_callFr, wp_callBx, wp_popN, wp_index, wp_yes, wp_seqI, wp_range, wp_revI, wp_zip, wp_zipB, wp_zipS, wp_enum, wp_zip3, wp_enZ, wp_callK, wp_callKF, wp_callBxF, wp_cps0, wp_cps1, wp_cpv, wp_cpf, ws_parG, ws_seq, ws_nil, ws_never, ws_pass, ws_ret, ws_retF, ws_retN, ws_set, ws_setF, ws_if, ws_asg, ws_par, ws_par3, ws_parF, ws_aug, ws_append, ws_setIx, ws_reverse, ws_clear, ws_extend, ws_popAt, ws_insert, wp_cmpN, wp_callBr, wpP_runP, wpF_runF, wpB_runB, wpP_ok, wpF_ok, wpP_exc, wpB_ok, ws_for', ws_forNil, wp_comp, wpC_nil, ev_g0, ev_gs, ev_gn, ev_s0, ev_ss, ev_m0, ev_m1, ev_a0, ev_a1, ev_r0, ev_rs, ev_l0, ev_l1, ev_d0, ev_d1, ev_ob, ev_om, ev_it, ev_if, ev_gl, ev_gl1, ev_dl, ev_dl1, ev_gla, ev_dla, add_ii, addI_ii, sub_ii, add_ll, add_tt, mod_ii, div_ii, pow_ii, mul_ii, mul_li, lt_ii, le_ii, gt_ii, ge_ii, neg_i, eq_ii, ne_ii, eq_bb, ne_bb, xor_f, xor_t, eq_str, ne_str, is_bb, isnot_bb, is_n, is_in, is_sn, is_bn, is_tn, is_ln, isnot_n, isnot_in, truth_b, truth_i, truth_l, truth_t, len_l, len_t, len_s, ix_l, ix_t, ix_s, seq_l, seq_t, seq_s, tuple_l, tuple_t, list_l, list_t, list_s, on1_p, abs_i, int_b, int_i, max_ii, min_ii, max1_l, min1_l, rev_l, rev_t, zip_ll, zip_tt, cat_ll, range_1, range_2, slot_0, slot_s, zip3_lll, zip3_llt, zip3_ltl, zip3_ltt, zip3_tll, zip3_tlt, zip3_ttl, zip3_ttt, zipB_ll, zipB_tt, zipB_lt, zipB_tl, zipS_ll, zipS_tt, zipS_lt, zipS_tl, omap_en, enum_l, enum_t, down_l, down_t, down_t0, setAll_0, setAll_1, atom_n, atom_b, atom_i, atom_s, permP_0, permP_1, getD_0, getD_s, isi_int_i, isi_int_b, isi_bool_i, isi_bool_b, isi_tup_t, isi_tup_l, isi_lst_l, isi_lst_t, isi_str_s, isi_str_i, isi_str_b, isi_str_n, isi_lt_l, isi_lt_t, isi_lt_i, isi_lt_b, isi_lt_s, isi_lt_n, at_0, at_1, at_2, at_3, at_last, mg_name, mg_tup, mg_lst, mg_nil, mg_cons, own0_own, startR_eq, wipe_0, wipe_1, back_0, back_1, ixN_3_0, ixN_3_1, ixN_3_2, szl, sze, wp_dict, eq_ints, eq_ww, eq_wf, sq_t, sq_f, ix_sq, len_sq, tuple_sq, list_sq, seq_sq, revI_sq, mg_sq, zipS_sq, zipS_st, zipS_ts, zipB_sq, zipB_st, zipB_ts, eq_fm, eq_fmr, iv_len, wvs_len, isring_ok, bins_ok, gates_ok, behind_ok, ahead_ok, out_ok, eq_iv, ne_iv, ix_tv0, ix_tv1, tv_mk, mg_tv, tuple_tv, in_ww, isi_tv, len_tv, eq_tvs, dix_w, lnv_0, lnv_1, sum_iv, $ls,*])
/-! forgotten: one end in whatever order -/
def Alt : List T → Prop
  | a :: b :: r => a.1 = (!b.1) ∧ Alt (b :: r)
  | _ => True
def Red : List T → Prop
  | a :: b :: c :: r => ¬ (b.2 ≤ min c.2 a.2) ∧ Red (b :: c :: r)
  | _ => True
def Ps (l : List T) : Prop := ∀ t ∈ l, 0 < t.2
theorem Alt.tl {a : T} {r : List T} (h : Alt (a :: r)) : Alt r := by
  cases r with
  | nil => trivial
  | cons b r => exact h.2
theorem Red.tl {a : T} {r : List T} (h : Red (a :: r)) : Red r := by
  match r, h with
  | [], _ => trivial
  | [b], _ => trivial
  | b :: c :: r, h => exact h.2
theorem Ps.tl {a : T} {r : List T} (h : Ps (a :: r)) : Ps r := fun t ht => h t (List.mem_cons_of_mem _ ht)
theorem Ps.hd {a : T} {r : List T} (h : Ps (a :: r)) : 0 < a.2 := h a (List.mem_cons_self ..)
theorem Ps.cons {a : T} {r : List T} (h : 0 < a.2) (k : Ps r) : Ps (a :: r) := fun t ht => by
  rcases List.mem_cons.mp ht with rfl | ht
  · exact h
  · exact k t ht
theorem Ps.app {a b : List T} (h : Ps a) (k : Ps b) : Ps (a ++ b) := fun t ht => by
  rcases List.mem_append.mp ht with ht | ht
  · exact h t ht
  · exact k t ht
structure St' (l : List T) : Prop where
  alt : Alt l
  pos : Ps l
  red : Red l
/-- enough fuel -/
theorem coll_fuel (w : Bool) : ∀ (n m : Nat) (l : List T), l.length ≤ n → l.length ≤ m → coll w n l = coll w m l
  | 0, m, l, h1, h2 => by
    have : l = [] := List.length_eq_zero_iff.mp (by omega)
    subst this
    cases m <;> rfl
  | n + 1, 0, l, h1, h2 => by
    have : l = [] := List.length_eq_zero_iff.mp (by omega)
    subst this
    rfl
  | n + 1, m + 1, [], _, _ => rfl
  | n + 1, m + 1, [a], _, _ => rfl
  | n + 1, m + 1, [a, b], _, _ => rfl
  | n + 1, m + 1, a :: b :: c :: r, h1, h2 => by
    rw [coll, coll, coll_fuel w n m _ (by simp at h1 ⊢; omega) (by simp at h2 ⊢; omega)]
def cl (w : Bool) (l : List T) : List T := coll w l.length l
theorem cl_0 (w : Bool) : cl w [] = [] := rfl
theorem cl_1 (w : Bool) (a : T) : cl w [a] = [a] := rfl
theorem cl_2 (w : Bool) (a b : T) : cl w [a, b] = [a, b] := rfl
theorem cl_3 (w : Bool) (a b c : T) (r : List T) : cl w (a :: b :: c :: r) = if b.2 ≤ min c.2 a.2 then cl w ((w, c.2 - b.2 + a.2) :: r) else a :: b :: c :: r := by
  unfold cl
  rw [show (a :: b :: c :: r).length = (b :: c :: r).length + 1 from rfl, coll, coll_fuel w _ (((w, c.2 - b.2 + a.2) :: r).length) _ (by simp) (by simp)]
theorem wt_nil (t : T) : wtR [] t = [t] := rfl
theorem wt_same {w : Bool} {m a : Int} {r : List T} : wtR ((w, a) :: r) (w, m) = cl w ((w, m + a) :: r) := by
  unfold wtR
  simp only [if_true]
  exact coll_fuel _ _ _ _ (by simp) (by simp)
theorem wt_other {w : Bool} {m a : Int} {r : List T} : wtR ((!w, a) :: r) (w, m) = cl w ((w, m) :: (!w, a) :: r) := by
  unfold wtR
  show (if (!w) = w then _ else coll w _ ((w, m) :: (!w, a) :: r)) = _
  rw [if_neg (by cases w <;> decide)]
  exact coll_fuel _ _ _ _ (by simp) (by simp)
theorem cl_red {w : Bool} : ∀ {l : List T}, Red l → cl w l = l
  | [], _ => rfl
  | [a], _ => rfl
  | [a, b], _ => rfl
  | a :: b :: c :: r, h => by rw [cl_3, if_neg h.1]
theorem cl_St {w : Bool} : ∀ (n : Nat) {a : Int} {r : List T}, r.length ≤ n → Alt ((w, a) :: r) → Ps ((w, a) :: r) → Red r → ∃ a' r', cl w ((w, a) :: r) = (w, a') :: r' ∧ a ≤ a' ∧ St' ((w, a') :: r')
  | n, a, [], _, h1, h2, h3 => ⟨a, [], rfl, Int.le_refl _, h1, h2, trivial⟩
  | n, a, [b], _, h1, h2, h3 => ⟨a, [b], rfl, Int.le_refl _, h1, h2, trivial⟩
  | 0, a, b :: c :: r, hl, h1, h2, h3 => by simp at hl
  | n + 1, a, b :: c :: r, hl, h1, h2, h3 => by
    rw [cl_3]
    by_cases hc : b.2 ≤ min c.2 a
    · rw [if_pos hc]
      have hc' : b.2 ≤ c.2 ∧ b.2 ≤ a := Int.le_min.mp hc
      have ec : c.1 = w := by
        have e1 : w = !b.1 := h1.1
        have e2 := h1.2.1
        rw [e1, e2]; simp
      have ha : Alt ((w, c.2 - b.2 + a) :: r) := by
        have := h1.tl.tl
        match r, this with
        | [], _ => trivial
        | d :: r, q => exact ⟨by rw [← q.1, ec], q.2⟩
      have hp := h2.hd
      simp only at hp
      obtain ⟨a', r', e, hle, st⟩ := cl_St n (a := c.2 - b.2 + a) (r := r) (by simp at hl; omega) ha (Ps.cons (by simp only; omega) h2.tl.tl.tl) h3.tl.tl
      exact ⟨a', r', e, by omega, st⟩
    · rw [if_neg hc]
      exact ⟨a, _, rfl, Int.le_refl _, h1, h2, hc, h3⟩
theorem bool_cases (a w : Bool) : a = w ∨ a = !w := by cases a <;> cases w <;> simp
theorem wt_St {l : List T} {w : Bool} {m : Int} (h : St' l) (hm : 0 < m) : ∃ a r, wtR l (w, m) = (w, a) :: r ∧ m ≤ a ∧ St' ((w, a) :: r) := by
  match l, h with
  | [], _ => exact ⟨m, [], rfl, Int.le_refl _, trivial, Ps.cons hm (fun _ h => by simp at h), trivial⟩
  | (v, a) :: r, h =>
    have hp := h.pos.hd
    simp only at hp
    rcases bool_cases v w with rfl | rfl
    · rw [wt_same]
      have alt : Alt ((v, m + a) :: r) := by
        have := h.alt
        match r, this with
        | [], _ => trivial
        | d :: r, q => exact q
      obtain ⟨a', r', e, hle, st⟩ := cl_St r.length (a := m + a) (r := r) (Nat.le_refl _) alt (Ps.cons (by simp only; omega) h.pos.tl) h.red.tl
      exact ⟨a', r', e, by omega, st⟩
    · rw [wt_other]
      obtain ⟨a', r', e, hle, st⟩ := cl_St (w := w) _ (a := m) (r := (!w, a) :: r) (Nat.le_refl _) ⟨by simp, h.alt⟩ (Ps.cons hm h.pos) h.red
      exact ⟨a', r', e, hle, st⟩
theorem cl_add {w : Bool} {y : Int} (hy : 0 < y) : ∀ (n : Nat) {a : Int} {r : List T}, r.length ≤ n → ∀ {a' : Int} {r' : List T}, cl w ((w, a) :: r) = (w, a') :: r' → cl w ((w, y + a') :: r') = cl w ((w, y + a) :: r)
  | n, a, [], _, a', r', e => by cases e; rfl
  | n, a, [b], _, a', r', e => by cases e; rfl
  | 0, a, b :: c :: r, hl, a', r', e => by simp at hl
  | n + 1, a, b :: c :: r, hl, a', r', e => by
    rw [cl_3] at e
    by_cases hc : b.2 ≤ min c.2 a
    · rw [if_pos hc] at e
      have hc' : b.2 ≤ c.2 ∧ b.2 ≤ a := Int.le_min.mp hc
      rw [cl_add hy n (by simp at hl; omega) e, cl_3, if_pos (Int.le_min.mpr ⟨hc'.1, by omega⟩)]
      congr 3
      omega
    · rw [if_neg hc] at e
      cases e
      rfl
theorem wt_add {l : List T} {w : Bool} {x y : Int} (h : St' l) (hx : 0 < x) (hy : 0 < y) : wtR (wtR l (w, x)) (w, y) = wtR l (w, x + y) := by
  obtain ⟨a, r, e, _, _⟩ := wt_St (w := w) h hx
  rw [e, wt_same]
  match l, h with
  | [], _ =>
    rw [wt_nil] at e
    cases e
    rw [wt_nil, cl_1, Int.add_comm]
  | (v, b) :: r', h =>
    rcases bool_cases v w with rfl | rfl
    · rw [wt_same] at e ⊢
      rw [cl_add hy _ (Nat.le_refl _) e]
      congr 3
      omega
    · rw [wt_other] at e ⊢
      rw [cl_add hy _ (Nat.le_refl _) e, Int.add_comm]
theorem wt_there {w : Bool} {a b : Int} {r : List T} (h : St' ((w, a) :: r)) (hb : 0 < b) (hab : b ≤ a) : wtR (wtR ((w, a) :: r) (!w, b)) (w, b) = (w, a) :: r := by
  have e1 : wtR ((w, a) :: r) (!w, b) = cl (!w) ((!w, b) :: (w, a) :: r) := by
    have := wt_other (w := !w) (m := b) (a := a) (r := r)
    rw [Bool.not_not] at this
    exact this
  rw [e1]
  have back : ∀ r' : List T, r' = r → cl w ((w, b) :: (!w, b) :: (w, a) :: r') = (w, a) :: r := fun r' er => by
    rw [cl_3, if_pos (Int.le_min.mpr ⟨hab, Int.le_refl _⟩)]
    simp only
    rw [show a - b + b = a by omega, er]
    exact cl_red h.red
  match r, h, back with
  | [], h, back =>
    rw [cl_2, wt_other]
    exact back [] rfl
  | (v, c) :: r, h, back =>
    have ev : v = !w := by
      have := h.alt.1
      simp only at this
      rw [this, Bool.not_not]
    subst ev
    rw [cl_3]
    by_cases hc : a ≤ min c b
    · rw [if_pos hc]
      have hc' := Int.le_min.mp hc
      have eab : a = b := by omega
      subst eab
      simp only
      rw [show c - a + a = c by omega, cl_red h.red.tl, wt_other]
      exact cl_red h.red
    · rw [if_neg hc, wt_other]
      exact back _ rfl
theorem wt_fbf {l : List T} {w : Bool} {b : Int} (h : St' l) (hb : 0 < b) : wtR (wtR (wtR l (w, b)) (!w, b)) (w, b) = wtR l (w, b) := by
  obtain ⟨a, r, e, hle, st⟩ := wt_St (w := w) h hb
  rw [e]
  exact wt_there st hb hle
/-! whatever turns do -/
structure Act {X : Type} (V : X → Prop) (A : X → T → X) : Prop where
  keep : ∀ x t, V x → 0 < t.2 → V (A x t)
  add : ∀ x w a b, V x → 0 < a → 0 < b → A (A x (w, a)) (w, b) = A x (w, a + b)
  fbf : ∀ x w b, V x → 0 < b → A (A (A x (w, b)) (!w, b)) (w, b) = A x (w, b)
theorem stack_act : Act St' wtR :=
  ⟨fun x t h ht => by obtain ⟨a, r, e, _, st⟩ := wt_St (w := t.1) h ht; rw [show wtR x t = (t.1, a) :: r from e]; exact st, fun x w a b h h1 h2 => wt_add h h1 h2, fun x w b h h1 => wt_fbf h h1⟩
section
variable {X : Type} {V : X → Prop} {A : X → T → X}
theorem Act.run (h : Act V A) : ∀ {l : List T} {x : X}, Ps l → V x → V (l.foldl A x)
  | [], x, _, hx => hx
  | t :: l, x, hl, hx => show V (l.foldl A (A x t)) from Act.run h (l := l) (x := A x t) hl.tl (h.keep x t hx hl.hd)
theorem Act.three (h : Act V A) {x : X} {w : Bool} {a b c : Int} (hx : V x) (hb : 0 < b) (h1 : b ≤ a) (h2 : b ≤ c) : A (A (A x (w, a)) (!w, b)) (w, c) = A x (w, a - b + c) := by
  have e1 : A x (w, a) = A x (w, a) := rfl
  -- the first one parted
  have go : ∀ y, V y → A (A (A y (w, b)) (!w, b)) (w, c) = A y (w, c) := fun y hy => by
    by_cases hc : b < c
    · have e2 : ∀ z, V z → A z (w, c) = A (A z (w, b)) (w, c - b) := fun z hz => by rw [h.add z w b (c - b) hz hb (by omega)]; congr 2; omega
      rw [e2 _ (h.keep _ _ (h.keep _ _ hy hb) hb), h.fbf y w b hy hb, ← e2 y hy]
    · have : c = b := by omega
      rw [this, h.fbf y w b hy hb]
  by_cases ha : b < a
  · rw [show A x (w, a) = A (A x (w, a - b)) (w, b) by rw [h.add x w (a - b) b hx (by omega) hb]; congr 2; omega]
    rw [go _ (h.keep _ _ hx (by show 0 < a - b; omega)), h.add x w (a - b) c hx (by omega) (by omega)]
  · have : a = b := by omega
    rw [this, go x hx, show b - b + c = c by omega]
/-- a stack gone through from its bottom on -/
theorem Act.cl (h : Act V A) {w : Bool} {x : X} (hx : V x) : ∀ (n : Nat) {a : Int} {r : List T}, r.length ≤ n → Alt ((w, a) :: r) → Ps ((w, a) :: r) → (Ev.cl w ((w, a) :: r)).reverse.foldl A x = ((w, a) :: r).reverse.foldl A x
  | n, a, [], _, h1, h2 => rfl
  | n, a, [b], _, h1, h2 => rfl
  | 0, a, b :: c :: r, hl, h1, h2 => by simp at hl
  | n + 1, a, b :: c :: r, hl, h1, h2 => by
    rw [cl_3]
    by_cases hc : b.2 ≤ min c.2 a
    · rw [if_pos hc]
      have hc' : b.2 ≤ c.2 ∧ b.2 ≤ a := Int.le_min.mp hc
      have eb : b.1 = !w := by have e1 : w = !b.1 := h1.1; rw [e1]; simp
      have ec : c.1 = w := by have e2 := h1.2.1; rw [eb] at e2; simpa using e2.symm
      have ha : Alt ((w, c.2 - b.2 + a) :: r) := by
        have := h1.tl.tl
        match r, this with
        | [], _ => trivial
        | d :: r, q => exact ⟨by rw [← q.1, ec], q.2⟩
      have hp := h2.hd
      have hpb := h2.tl.hd
      simp only at hp
      rw [Act.cl h hx n (by simp at hl; omega) ha (Ps.cons (by simp only; omega) h2.tl.tl.tl)]
      have hr : V (r.reverse.foldl A x) := h.run (fun t ht => h2 t (by simp at ht ⊢; exact .inr (.inr (.inr ht)))) hx
      simp only [List.reverse_cons, List.foldl_append, List.foldl_cons, List.foldl_nil]
      generalize r.reverse.foldl A x = y at hr ⊢
      obtain ⟨b1, b2⟩ := b
      obtain ⟨c1, c2⟩ := c
      simp only at eb ec hc' hpb ⊢
      subst eb ec
      rw [h.three hr hpb hc'.1 hc'.2]
    · rw [if_neg hc]
theorem Act.wt (h : Act V A) {x : X} {l : List T} {t : T} (hx : V x) (hl : St' l) (ht : 0 < t.2) : (wtR l t).reverse.foldl A x = A (l.reverse.foldl A x) t := by
  obtain ⟨w, m⟩ := t
  match l, hl with
  | [], _ => rfl
  | (v, a) :: r, hl =>
    have hp := hl.pos.hd
    simp only at hp ht
    rcases bool_cases v w with rfl | rfl
    · rw [wt_same]
      have alt : Alt ((v, m + a) :: r) := by
        have := hl.alt
        match r, this with
        | [], _ => trivial
        | d :: r, q => exact q
      rw [h.cl hx _ (Nat.le_refl _) alt (Ps.cons (by simp only; omega) hl.pos.tl)]
      simp only [List.reverse_cons, List.foldl_append, List.foldl_cons, List.foldl_nil]
      rw [h.add _ _ _ _ (h.run (fun t ht => hl.pos t (by simp at ht ⊢; exact .inr ht)) hx) hp ht, Int.add_comm]
    · rw [wt_other, h.cl hx _ (Nat.le_refl _) (show Alt ((w, m) :: (!w, a) :: r) from ⟨by simp, hl.alt⟩) (Ps.cons ht hl.pos)]
      simp only [List.reverse_cons, List.foldl_append, List.foldl_cons, List.foldl_nil]
theorem St'.nil : St' [] := ⟨trivial, fun _ h => by simp at h, trivial⟩
theorem Act.fold (h : Act V A) {x : X} (hx : V x) : ∀ {ts l : List T}, Ps ts → St' l → (ts.foldl wtR l).reverse.foldl A x = ts.foldl A (l.reverse.foldl A x)
  | [], l, _, hl => rfl
  | t :: ts, l, ht, hl => by
    simp only [List.foldl_cons]
    rw [Act.fold h hx ht.tl (stack_act.keep l t hl ht.hd), h.wt hx hl ht.hd]
/-- what is forgotten makes no difference -/
theorem Act.fg (h : Act V A) {x : X} {ts : List T} (hx : V x) (ht : Ps ts) : (Ev.fg ts).foldl A x = ts.foldl A x := h.fold hx ht St'.nil
theorem Act.jnF (h : Act V A) {x : X} (hx : V x) : ∀ {ts l : List T}, Ps ts → Ps l → (ts.foldl jnR l).reverse.foldl A x = ts.foldl A (l.reverse.foldl A x)
  | [], l, _, hl => rfl
  | t :: ts, l, ht, hl => by
    have hp : Ps (jnR l t) := by
      unfold jnR
      split
      · exact Ps.cons ht.hd (fun _ h => by simp at h)
      · rename_i a r
        have := ht.hd
        have := hl.hd
        split
        · exact Ps.cons (by simp only; omega) hl.tl
        · exact Ps.cons ht.hd hl
    simp only [List.foldl_cons]
    rw [Act.jnF h hx ht.tl hp]
    congr 1
    unfold jnR
    split
    · rfl
    · rename_i a r
      split
      · rename_i e
        obtain ⟨w, m⟩ := t
        obtain ⟨v, a⟩ := a
        simp only at e
        subst e
        simp only [List.reverse_cons, List.foldl_append, List.foldl_cons, List.foldl_nil]
        rw [h.add _ _ _ _ (h.run (fun t ht => hl t (by simp at ht ⊢; exact .inr ht)) hx) hl.hd ht.hd, Int.add_comm]
      · simp only [List.reverse_cons, List.foldl_append, List.foldl_cons, List.foldl_nil]
theorem Act.jn (h : Act V A) {x : X} {ts : List T} (hx : V x) (ht : Ps ts) : (Ev.jn ts).foldl A x = ts.foldl A x := h.jnF hx ht (fun _ h => by simp at h)
end
/-! turns that do the same -/
def Sim (a b : List T) : Prop := ∀ l, St' l → a.foldl wtR l = b.foldl wtR l
theorem Sim.fg {a b : List T} (h : Sim a b) : fg a = fg b := by unfold Ev.fg fgR; rw [h [] St'.nil]
theorem Sim.of_fg {ts : List T} (h : Ps ts) : Sim (Ev.fg ts) ts := fun l hl => stack_act.fg hl h
theorem Sim.refl (a : List T) : Sim a a := fun _ _ => rfl
theorem Sim.symm {a b : List T} (h : Sim a b) : Sim b a := fun l hl => (h l hl).symm
theorem Sim.trans {a b c : List T} (h : Sim a b) (k : Sim b c) : Sim a c := fun l hl => (h l hl).trans (k l hl)
theorem Sim.app {a b c d : List T} (h : Sim a b) (k : Sim c d) (hb : Ps b) : Sim (a ++ c) (b ++ d) := fun l hl => by
  rw [List.foldl_append, List.foldl_append, h l hl]
  exact k _ (stack_act.run hb hl)
theorem fgR_St {ts : List T} (h : Ps ts) : St' (fgR ts) := stack_act.run h St'.nil
theorem fg_Ps {ts : List T} (h : Ps ts) : Ps (fg ts) := fun t ht => (fgR_St h).pos t (by unfold fg at ht; simpa using ht)
theorem fg_fg {ts : List T} (h : Ps ts) : fg (fg ts) = fg ts := (Sim.of_fg h).fg
theorem fg_len (ts : List T) : (fg ts).length ≤ ts.length := by
  have := fold_len ts []
  unfold fg fgR
  simpa using this
end Ev

set_option maxHeartbeats 2000000
set_option linter.all false
set_option Elab.async false
set_option maxRecDepth 100000
namespace Ev
open PySem L2
local macro_rules | `(tactic| simp_arith only [$ls,*]) => `(tactic| simp -implicitDefEqProofs only [Nat.reduceSub, Nat.reduceAdd, Int.reduceLT, Int.reduceLE, Int.reduceGT, Int.reduceGE, Int.reduceEq, Int.reducePow, Nat.reducePow, Nat.reduceMul, Int.reduceNeg, Int.reduceToNat, Int.reduceAbs, Int.reduceMod, Int.reduceDiv, Int.reduceAdd, Int.reduceSub, Int.reduceMul, Nat.reduceLT, Nat.reduceLeDiff, Nat.reduceEqDiff, decide_eq_true_eq, decide_true, decide_false, and_true, true_and, true_or, or_true, false_or, or_false, and_false, false_and, if_false, ite_true, ite_false, PV.int.injEq, PV.bl.injEq, exists_eq_left', Bool.not_true, Bool.not_false, Bool.false_eq_true, not_true_eq_false, not_false_eq_true, reduceCtorEq, Option.some.injEq, wp_ok, wp_exc, wp_bad, wo_some, wo_none, wo_if, wo_map, wo_bind, wp_of, ws_nx, ws_rt, ws_rf, ws_bk, ws_ct, ws_exc, ws_bad, wp_name, wp_c, wp_m2, wp_m1, wp_test, wp_truthN, wp_sumN, wp_lenN, wp_ixN, wp_and, wp_or, wp_notT, wp_andV, wp_orV, wp_notV, wp_if, wp_ifF, wp_args0, wp_args1, wp_tup, wp_frz, wp_callB, wp_callF, wp_cat, wp_repL, wp_chain, wp_cut, wp_part0, wp_part1, wp_call, wp_callFr, wp_callBx, wp_popN, wp_index, wp_yes, wp_seqI, wp_range, wp_revI, wp_zip, wp_zipB, wp_zipS, wp_enum, wp_zip3, wp_enZ, wp_callK, wp_callKF, wp_callBxF, wp_cps0, wp_cps1, wp_cpv, wp_cpf, ws_parG, ws_seq, ws_nil, ws_never, ws_pass, ws_ret, ws_retF, ws_retN, ws_set, ws_setF, ws_if, ws_asg, ws_par, ws_par3, ws_parF, ws_aug, ws_append, ws_setIx, ws_reverse, ws_clear, ws_extend, ws_popAt, ws_insert, wp_cmpN, wp_callBr, wpP_runP, wpF_runF, wpB_runB, wpP_ok, wpF_ok, wpP_exc, wpB_ok, ws_for', ws_forNil, wp_comp, wpC_nil, ev_g0, ev_gs, ev_gn, ev_s0, ev_ss, ev_m0, ev_m1, ev_a0, ev_a1, ev_r0, ev_rs, ev_l0, ev_l1, ev_d0, ev_d1, ev_ob, ev_om, ev_it, ev_if, ev_gl, ev_gl1, ev_dl, ev_dl1, ev_gla, ev_dla, add_ii, addI_ii, sub_ii, add_ll, add_tt, mod_ii, div_ii, pow_ii, mul_ii, mul_li, lt_ii, le_ii, gt_ii, ge_ii, neg_i, eq_ii, ne_ii, eq_bb, ne_bb, xor_f, xor_t, eq_str, ne_str, is_bb, isnot_bb, is_n, is_in, is_sn, is_bn, is_tn, is_ln, isnot_n, isnot_in, truth_b, truth_i, truth_l, truth_t, len_l, len_t, len_s, ix_l, ix_t, ix_s, seq_l, seq_t, seq_s, tuple_l, tuple_t, list_l, list_t, list_s, on1_p, abs_i, int_b, int_i, max_ii, min_ii, max1_l, min1_l, rev_l, rev_t, zip_ll, zip_tt, cat_ll, range_1, range_2, slot_0, slot_s, zip3_lll, zip3_llt, zip3_ltl, zip3_ltt, zip3_tll, zip3_tlt, zip3_ttl, zip3_ttt, zipB_ll, zipB_tt, zipB_lt, zipB_tl, zipS_ll, zipS_tt, zipS_lt, zipS_tl, omap_en, enum_l, enum_t, down_l, down_t, down_t0, setAll_0, setAll_1, atom_n, atom_b, atom_i, atom_s, permP_0, permP_1, getD_0, getD_s, isi_int_i, isi_int_b, isi_bool_i, isi_bool_b, isi_tup_t, isi_tup_l, isi_lst_l, isi_lst_t, isi_str_s, isi_str_i, isi_str_b, isi_str_n, isi_lt_l, isi_lt_t, isi_lt_i, isi_lt_b, isi_lt_s, isi_lt_n, at_0, at_1, at_2, at_3, at_last, mg_name, mg_tup, mg_lst, mg_nil, mg_cons, own0_own, startR_eq, wipe_0, wipe_1, back_0, back_1, ixN_3_0, ixN_3_1, ixN_3_2, szl, sze, wp_dict, eq_ints, eq_ww, eq_wf, sq_t, sq_f, ix_sq, len_sq, tuple_sq, list_sq, seq_sq, revI_sq, mg_sq, zipS_sq, zipS_st, zipS_ts, zipB_sq, zipB_st, zipB_ts, eq_fm, eq_fmr, iv_len, wvs_len, isring_ok, bins_ok, gates_ok, behind_ok, ahead_ok, out_ok, eq_iv, ne_iv, ix_tv0, ix_tv1, tv_mk, mg_tv, tuple_tv, in_ww, isi_tv, len_tv, eq_tvs, dix_w, lnv_0, lnv_1, sum_iv, $ls,*])
/-! a law's own beats -/
theorem wp_dictE {Q : PV → Rho → Prop} {E : Exc → Rho → Prop} {ρ : Rho} {ks : List Key} {ms : List M} : WpE Q E (mDict ks ms ρ) = WpE (fun ps ρ1 => Q (.dic ks ps) ρ1) (fun _ _ => False) (mArgs ms ρ) := by
  unfold mDict
  cases mArgs ms ρ with
  | ok z => rfl
  | exc x ρ => rfl
  | bad => rfl
theorem enum_sq {t : Bool} {xs : List PV} : pvEnum [sq t xs] = some (enumP xs) := by cases t <;> rfl
theorem enW_get {l : List (Option Int)} {i : Nat} {p : PV} (h : (enumP (wvs l))[i]? = some p) : i < l.length ∧ p = pairP (.int (i : Nat)) (wv (l.getD i none)) := by
  unfold enumP wvs at h
  rw [List.getElem?_mapIdx, List.getElem?_map] at h
  cases e : l[i]? with
  | none => rw [e] at h; cases h
  | some v =>
    rw [e] at h
    cases h
    exact ⟨(List.getElem?_eq_some_iff.mp e).1, by simp [List.getD, e]⟩
section
variable {t t' t1 t2 t3 : Bool} {L : Ln} {ws : List (Option Int)} {st : List Int} {w : Bool}
theorem sides_ok {g : Nat} (hn : 0 < L.rooms.length) : f__law_sides [lnv t t' L, .int g] = .ok (.tup [oi (L.bh g), oi (L.ah g)]) := by
  rw [wpP_eq]; simp_arith only [wp_dictE, enum_sq, sides_ok, f__law_sides, c__law_sides]
  have hn' : (0 : Int) < L.rooms.length := by omega
  cases h : L.ring with
  | true =>
    simp only [Ln.bh, Ln.ah, h, if_true, oi, if_pos hn']
    rw [show ((g : Int) - 1) = ((g + (L.rooms.length - 1) : Nat) : Int) - L.rooms.length by omega, Int.sub_emod_right]
    simp
  | false =>
    simp only [Ln.bh, Ln.ah, h, Bool.false_eq_true, if_false]
    by_cases hg : 0 < g
    · have h1 : (0 : Int) < g := by omega
      by_cases hg2 : g < L.rooms.length
      · have h2 : (g : Int) < L.rooms.length := by omega
        simp only [h1, hg, h2, hg2, if_true, oi]
        congr 3; omega
      · have h2 : ¬ (g : Int) < L.rooms.length := by omega
        simp only [h1, hg, h2, hg2, if_true, if_false, oi]
        congr 3; omega
    · have h1 : ¬ (0 : Int) < g := by omega
      by_cases hg2 : g < L.rooms.length
      · have h2 : (g : Int) < L.rooms.length := by omega
        simp only [h1, hg, h2, hg2, if_true, if_false, oi]
      · have h2 : ¬ (g : Int) < L.rooms.length := by omega
        simp only [h1, hg, h2, hg2, if_false, oi]
theorem min_bnds (g : Nat) (hn : 0 < L.rooms.length) (hg : g < L.ng) : pvMin [.lst (iv (bnds L ws st w g))] = some (.int (gs L ws st w g)) := min_l (bnds_ne hn hg)
theorem went_ok (h : Fit L ws st) : f__law_went [lnv t t' L, sq t1 (wvs ws), sq t2 (iv st), .str (wy w)] = .ok (.tup (iv (mv L ws st w))) := by
  have hng := ng_le L h.n1
  rw [wpP_eq]
  simp_arith only [wp_dictE, enum_sq, sides_ok, f__law_went, c__law_went]
  refine ws_forInv (fun i ρ => i ≤ L.ng → ∃ a b c d e f g, ρ = [.val (lnv t t' L), .val (sq t1 (wvs ws)), .val (sq t2 (iv st)), .val (.str (wy w)), .own (iv ((List.range i).map (gs L ws st w))), a, b, c, d, e, f, g]) (fun _ => ⟨_, _, _, _, _, _, _, rfl⟩) ?_ ?_
  · rintro i p ρ e hI
    obtain ⟨hi, rfl⟩ := enW_get e
    rw [h.w] at hi
    obtain ⟨xa, xb, xc, xd, xe, xf, xg, rfl⟩ := hI (by omega)
    have mb := min_bnds (ws := ws) (st := st) (w := w) i h.n hi
    have hsz : ((iv ((List.range i).map (gs L ws st w))).length < sizeLine) = True := szl (by simp [iv]; omega)
    have ea : iv ((List.range i).map (gs L ws st w)) ++ [.int (gs L ws st w i)] = iv ((List.range (i + 1)).map (gs L ws st w)) := by rw [List.range_succ]; simp [iv]
    have h1 : ∀ j, L.bh i = some j → j < L.rooms.length := fun j e => bh_lt h.n hi e
    have h2 : ∀ j, L.ah i = some j → j < L.rooms.length := fun j e => ah_lt hi e
    unfold bnds at mb
    generalize gs L ws st w i = m at mb ea
    generalize iv ((List.range i).map (gs L ws st w)) = told at hsz ea ⊢
    generalize iv ((List.range (i + 1)).map (gs L ws st w)) = told2 at ea ⊢
    cases hv : ws.getD i none with
    | none =>
      rw [hv] at mb
      cases hb : L.bh i with
      | none =>
        cases ha : L.ah i with
        | none =>
          exfalso
          have := bnds_ne (ws := List.replicate (i + 1) none) (st := st) (w := true) h.n hi
          apply this
          unfold bnds
          rw [hb, ha]
          simp [tl1, List.getD, List.getElem?_replicate]
        | some b =>
          have a1 := at_iv (l := L.rooms) (h2 b ha)
          have a2 := at_iv (l := st) (j := b) (by rw [h.s]; exact h2 b ha)
          rw [hb, ha] at mb
          cases w <;> (simp only [tl1, iv, Option.toList_none, Option.toList_some, List.nil_append, List.append_nil, List.cons_append, List.map_cons, List.map_nil, if_true, Bool.false_eq_true, if_false] at mb; simp_arith only [wp_dictE, enum_sq, sides_ok, pairP, wv, sides_ok h.n, hb, ha, oi, a1, a2, szl, mb, hsz, ea]; exact fun _ => ⟨_, _, _, _, _, _, _, rfl⟩)
      | some a =>
        have b1 := at_iv (l := L.rooms) (h1 a hb)
        have b2 := at_iv (l := st) (j := a) (by rw [h.s]; exact h1 a hb)
        cases ha : L.ah i with
        | none =>
          rw [hb, ha] at mb
          cases w <;> (simp only [tl1, iv, Option.toList_none, Option.toList_some, List.nil_append, List.append_nil, List.cons_append, List.map_cons, List.map_nil, if_true, Bool.false_eq_true, if_false] at mb; simp_arith only [wp_dictE, enum_sq, sides_ok, pairP, wv, sides_ok h.n, hb, ha, oi, b1, b2, szl, mb, hsz, ea]; exact fun _ => ⟨_, _, _, _, _, _, _, rfl⟩)
        | some b =>
          have a1 := at_iv (l := L.rooms) (h2 b ha)
          have a2 := at_iv (l := st) (j := b) (by rw [h.s]; exact h2 b ha)
          rw [hb, ha] at mb
          cases w <;> (simp only [tl1, iv, Option.toList_none, Option.toList_some, List.nil_append, List.append_nil, List.cons_append, List.map_cons, List.map_nil, if_true, Bool.false_eq_true, if_false] at mb; simp_arith only [wp_dictE, enum_sq, sides_ok, pairP, wv, sides_ok h.n, hb, ha, oi, a1, a2, b1, b2, szl, mb, hsz, ea]; exact fun _ => ⟨_, _, _, _, _, _, _, rfl⟩)
    | some v =>
      rw [hv] at mb
      cases hb : L.bh i with
      | none =>
        cases ha : L.ah i with
        | none =>
          rw [hb, ha] at mb
          cases w <;> (simp only [tl1, iv, Option.toList_none, Option.toList_some, List.nil_append, List.append_nil, List.cons_append, List.map_cons, List.map_nil, if_true, Bool.false_eq_true, if_false] at mb; simp_arith only [wp_dictE, enum_sq, sides_ok, pairP, wv, sides_ok h.n, hb, ha, oi, szl, mb, hsz, ea]; exact fun _ => ⟨_, _, _, _, _, _, _, rfl⟩)
        | some b =>
          have a1 := at_iv (l := L.rooms) (h2 b ha)
          have a2 := at_iv (l := st) (j := b) (by rw [h.s]; exact h2 b ha)
          rw [hb, ha] at mb
          cases w <;> (simp only [tl1, iv, Option.toList_none, Option.toList_some, List.nil_append, List.append_nil, List.cons_append, List.map_cons, List.map_nil, if_true, Bool.false_eq_true, if_false] at mb; simp_arith only [wp_dictE, enum_sq, sides_ok, pairP, wv, sides_ok h.n, hb, ha, oi, a1, a2, szl, mb, hsz, ea]; exact fun _ => ⟨_, _, _, _, _, _, _, rfl⟩)
      | some a =>
        have b1 := at_iv (l := L.rooms) (h1 a hb)
        have b2 := at_iv (l := st) (j := a) (by rw [h.s]; exact h1 a hb)
        cases ha : L.ah i with
        | none =>
          rw [hb, ha] at mb
          cases w <;> (simp only [tl1, iv, Option.toList_none, Option.toList_some, List.nil_append, List.append_nil, List.cons_append, List.map_cons, List.map_nil, if_true, Bool.false_eq_true, if_false] at mb; simp_arith only [wp_dictE, enum_sq, sides_ok, pairP, wv, sides_ok h.n, hb, ha, oi, b1, b2, szl, mb, hsz, ea]; exact fun _ => ⟨_, _, _, _, _, _, _, rfl⟩)
        | some b =>
          have a1 := at_iv (l := L.rooms) (h2 b ha)
          have a2 := at_iv (l := st) (j := b) (by rw [h.s]; exact h2 b ha)
          rw [hb, ha] at mb
          cases w <;> (simp only [tl1, iv, Option.toList_none, Option.toList_some, List.nil_append, List.append_nil, List.cons_append, List.map_cons, List.map_nil, if_true, Bool.false_eq_true, if_false] at mb; simp_arith only [wp_dictE, enum_sq, sides_ok, pairP, wv, sides_ok h.n, hb, ha, oi, a1, a2, b1, b2, szl, mb, hsz, ea]; exact fun _ => ⟨_, _, _, _, _, _, _, rfl⟩)
  · intro ρ hI
    have hl : (enumP (wvs ws)).length = L.ng := by simp [enumP, wvs, h.w]
    rw [hl] at hI
    obtain ⟨xa, xb, xc, xd, xe, xf, xg, rfl⟩ := hI (Nat.le_refl _)
    simp_arith only [wp_dictE, enum_sq, sides_ok]
    rfl
theorem ownbeat_ok (h : Fit L ws st) : f__law_beat [lnv t t' L, sq t1 (wvs ws), sq t2 (iv st), .str (wy w)] = .ok (.tup [.tup (iv (bt L ws st w)), .tup (iv (sg (mv L ws st w) w))]) := by
  have hng := ng_le L h.n1
  rw [wpP_eq]
  have p1 := put_ok (t := t) (t' := t') (t2 := t2) (t3 := true) (cs := sg (mv L ws st w) w) h.n h.n1 h.s (by simp)
  rw [sq_t] at p1
  simp_arith only [wp_dictE, enum_sq, sides_ok, f__law_beat, c__law_beat, went_ok (t := t) (t' := t') (t1 := t1) (t2 := t2) (w := w) h]
  refine wpC_list (l := mv L ws st w) (f := PV.int) (fun a => .int (if w then a else -a)) (by simp; omega) (fun a _ => ?_) ?_
  · cases w with
    | true => simp_arith only [wp_dictE, enum_sq, sides_ok, Int.mul_one]
    | false => simp_arith only [wp_dictE, enum_sq, sides_ok, Int.mul_neg_one]
  · have e : ((mv L ws st w).map fun a => PV.int (if w then a else -a)) = iv (sg (mv L ws st w) w) := by cases w <;> simp [iv, sg]
    rw [e]
    simp_arith only [wp_dictE, enum_sq, sides_ok, p1]
    rfl
theorem ran_ok {run : List Bt} (h : FitR L st run) : f__law_ran [lnv t t' L, .tup (iv st), rvs run] = .ok (.tup [.tup (iv (ld L st run).1), .tup (iv (ld L st run).2)]) := by
  have hng := ng_le L h.n1
  rw [wpP_eq]
  simp_arith only [wp_dictE, enum_sq, sides_ok, f__law_ran, c__law_ran, len_ng, rvs]
  rw [if_pos (by omega)]
  simp only [Int.toNat_natCast]
  refine wpC_range (fun _ => .int 0) (by omega) (fun i _ => ?_) ?_
  · simp_arith only [wp_dictE, enum_sq, sides_ok]
  have e0 : (List.range L.ng).map (fun _ => PV.int 0) = iv (List.replicate L.ng 0) := by simp [iv, List.map_const']
  rw [e0]
  simp_arith only [wp_dictE, enum_sq, sides_ok]
  refine ws_forInv (fun i ρ => ∃ a b c, ρ = [.val (lnv t t' L), .val (.tup (iv ((run.take i).foldl (ldS L) (st, List.replicate L.ng 0)).1)), .val (.lst (run.map rv)), .val (.tup (iv ((run.take i).foldl (ldS L) (st, List.replicate L.ng 0)).2)), a, b, c, .emp, .emp, .emp]) ⟨_, _, _, rfl⟩ ?_ ?_
  · rintro i p ρ e ⟨a, b, c, rfl⟩
    rw [List.getElem?_map] at e
    cases er : run[i]? with
    | none => rw [er] at e; cases e
    | some r =>
    rw [er] at e
    cases e
    have hl := ldF_len (L := L) (run.take i) (st, List.replicate L.ng 0) h.s (by simp)
    rw [take_snoc er, List.foldl_append]
    generalize (run.take i).foldl (ldS L) (st, List.replicate L.ng 0) = pq at hl ⊢
    obtain ⟨x, y⟩ := pq
    have fit : Fit L r.2 x := ⟨h.n, h.n1, hl.1, h.w r (List.mem_of_getElem? er)⟩
    have b1 := ownbeat_ok (t := t) (t' := t') (t1 := true) (t2 := true) (w := r.1) fit
    simp only [sq_t] at b1
    simp_arith only [wp_dictE, enum_sq, sides_ok, rv, b1]
    rw [show List.zipWith pairP (iv y) (iv (sg (mv L r.2 x r.1) r.1)) = _ from zip_pair PV.int PV.int y (sg (mv L r.2 x r.1) r.1)]
    refine wpC_list (fun p => .int (p.1 + p.2)) (by simp at hl ⊢; omega) (fun p _ => ?_) ?_
    · simp_arith only [wp_dictE, enum_sq, sides_ok, pairP]
    · simp_arith only [wp_dictE, enum_sq, sides_ok]
      rw [zmap (fun x y => PV.int (x + y))]
      have e2 : List.zipWith (fun x y => PV.int (x + y)) y (sg (mv L r.2 x r.1) r.1) = iv (List.zipWith (· + ·) y (sg (mv L r.2 x r.1) r.1)) := by simp [iv, List.map_zipWith]
      rw [e2]
      exact ⟨_, _, _, rfl⟩
  · rintro ρ ⟨a, b, c, rfl⟩
    simp_arith only [wp_dictE, enum_sq, sides_ok]
    simp [ld]
end
/-! turns beat by beat -/
def ex (ws : List (Option Int)) (ts : List T) : List Bt := ts.flatMap fun t => List.replicate t.2.toNat (t.1, ws)
def bs (ts : List T) : Int := (ts.map Prod.snd).sum
@[simp] theorem bs_nil : bs [] = 0 := rfl
@[simp] theorem bs_cons (t : T) (ts : List T) : bs (t :: ts) = t.2 + bs ts := by simp [bs]
theorem bs_app (a b : List T) : bs (a ++ b) = bs a + bs b := by simp [bs]
theorem bs_nn {ts : List T} (h : Ps ts) : 0 ≤ bs ts := by
  induction ts with
  | nil => simp
  | cons t ts ih => have := ih h.tl; have := h.hd; simp; omega
theorem ex_len (ws : List (Option Int)) {ts : List T} (h : Ps ts) : ((ex ws ts).length : Int) = bs ts := by
  induction ts with
  | nil => rfl
  | cons t ts ih =>
    have := ih h.tl
    have := h.hd
    simp only [ex, List.flatMap_cons, List.length_append, List.length_replicate, bs_cons] at this ⊢
    simp only [ex] at ih
    have e := ih h.tl
    omega
theorem ex_mem {ws : List (Option Int)} {ts : List T} {r : Bt} (h : r ∈ ex ws ts) : r.2 = ws := by
  unfold ex at h
  obtain ⟨t, _, h⟩ := List.mem_flatMap.mp h
  rw [List.eq_of_mem_replicate h]
theorem ex_app (ws : List (Option Int)) (a b : List T) : ex ws (a ++ b) = ex ws a ++ ex ws b := by simp [ex]
theorem ex_one (ws : List (Option Int)) (t : T) : ex ws [t] = List.replicate t.2.toNat (t.1, ws) := by simp [ex]
theorem mul_one1 (p : PV) (m : Nat) (h : m ≤ 100000) : pvMul (.lst [p]) (.int (m : Nat)) = some (.lst (List.replicate m p)) := by
  rw [mul_li, if_pos ⟨by omega, by omega, by simp; exact Nat.le_of_lt (sz _ (by omega))⟩]
  simp
theorem mul_oneI (p : PV) {m : Int} (h0 : 0 ≤ m) (h : m ≤ 100000) : pvMul (.lst [p]) (.int m) = some (.lst (List.replicate m.toNat p)) := by
  obtain ⟨k, rfl⟩ := Int.eq_ofNat_of_zero_le h0
  exact mul_one1 p k (by omega)
theorem rv_w (w : Bool) (ws : List (Option Int)) : PV.tup [.str (wy w), .tup (wvs ws)] = rv (w, ws) := rfl
theorem bs_take {ts : List T} (h : Ps ts) (i : Nat) : bs (ts.take i) ≤ bs ts := by
  have e := bs_app (ts.take i) (ts.drop i)
  rw [List.take_append_drop] at e
  have := bs_nn (ts := ts.drop i) (fun t ht => h t (List.mem_of_mem_drop ht))
  omega
theorem gone_run {D : PR} {ws : List (Option Int)} {ts : List T} {i1 i2 i3 i4 : Nat} (mk : PV → Slot → Slot → Rho) (hp : Ps ts) (hb : bs ts ≤ 100000) (x5 x6 : Slot)
    (hA : ∀ r a b w n, (mgTup (mgCons (mgName i1) (mgCons (mgName i2) (mgNil)))) (.tup [.str (wy w), .int n]) (mk r a b) = some (mk r (.val (.str (wy w))) (.val (.int n))))
    (hB : ∀ r w n z, pvAdd (.lst r) (.lst (List.replicate n (rv (w, ws)))) = some z → n ≤ 100000 → ∀ D', D'.nx (mk z (.val (.str (wy w))) (.val (.int n))) → WpS D' ((mSet i3 (m2 pvAdd (mName i3) (m2 pvMul (mFrz (mArgs [mTup [mName i1, mName i4]])) (mName i2)))) (mk (.lst r) (.val (.str (wy w))) (.val (.int n)))))
    (hD : ∀ a b, D.nx (mk (rvs (ex ws ts)) a b)) :
    WpS D (forL (mgTup (mgCons (mgName i1) (mgCons (mgName i2) (mgNil)))) (mSet i3 (m2 pvAdd (mName i3) (m2 pvMul (mFrz (mArgs [mTup [mName i1, mName i4]])) (mName i2)))) (tvs ts) (mk (.lst []) x5 x6)) := by
  refine ws_forInv (fun i ρ => ∃ a b, ρ = mk (rvs (ex ws (ts.take i))) a b) ⟨_, _, rfl⟩ ?_ ?_
  · rintro i p ρ e ⟨a, b, rfl⟩
    obtain ⟨t, et, rfl⟩ := tvs_get ts i p e
    obtain ⟨w, n⟩ := t
    have hm := hp _ (List.mem_of_getElem? et)
    simp only at hm
    have b1 := bs_take hp (i + 1)
    rw [take_snoc et, bs_app] at b1
    have b0 : 0 ≤ bs (ts.take i) := bs_nn fun t ht => hp t (List.mem_of_mem_take ht)
    simp at b1
    have l1 := ex_len ws (ts := ts.take i) (fun t ht => hp t (List.mem_of_mem_take ht))
    obtain ⟨k, rfl⟩ := Int.eq_ofNat_of_zero_le (show 0 ≤ n by omega)
    unfold tv
    rw [hA]
    simp only [wo_some]
    rw [take_snoc et, ex_app, ex_one]
    have ea : pvAdd (rvs (ex ws (ts.take i))) (.lst (List.replicate k (rv (w, ws)))) = some (rvs (ex ws (ts.take i) ++ List.replicate k (w, ws))) := by
      unfold rvs
      rw [add_ll, if_pos (Nat.le_of_lt (sz _ (by simp; omega)))]
      simp
    refine hB _ w k _ ea (by omega) _ ?_
    exact ⟨_, _, rfl⟩
  · rintro ρ ⟨a, b, rfl⟩
    have := hD a b
    simpa [tvs] using this
theorem gone_ok {t t' : Bool} {L : Ln} {ws : List (Option Int)} {st : List Int} {ts : List T} (hn : 0 < L.rooms.length) (h1 : L.rooms.length ≤ 900) (g2 : 2 ≤ L.ng) (hs : st.length = L.rooms.length) (hw : ws.length = L.ng) (hp : Ps ts) (hb : bs ts ≤ 100000) :
    f__law_gone [lnv t t' L, .tup (wvs ws), .tup (iv st), .lst (tvs ts)] = .ok (.tup [.tup (iv (ld L st (ex ws ts)).1), .tup (iv (ld L st (ex ws ts)).2)]) := by
  have r1 := ran_ok (t := t) (t' := t') (L := L) (st := st) (run := ex ws ts) ⟨hn, h1, g2, hs, fun r hr => by rw [ex_mem hr]; exact hw⟩
  rw [wpP_eq]
  simp_arith only [wp_dictE, enum_sq, sides_ok, f__law_gone, c__law_gone]
  refine gone_run (ws := ws) (fun z a b => [.val (lnv t t' L), .val (.tup (wvs ws)), .val (.tup (iv st)), .val (.lst (tvs ts)), .val z, a, b]) hp hb _ _ (fun r a b w n => rfl) (fun r w n z hz hn D' hD' => ?_) (fun a b => ?_)
  · have e := mul_one1 (rv (w, ws)) n hn
    simp_arith only [wp_dictE, enum_sq, sides_ok, rv_w, e, hz]
    exact hD'
  · simp_arith only [wp_dictE, enum_sq, sides_ok, r1]
/-! what turns do on a line -/
def goA (L : Ln) (s : List Int) (ws : List (Option Int)) (c : List Int) (t : T) : List Int := cnt L s (List.replicate t.2.toNat (t.1, ws)) c
theorem cnt_ex (L : Ln) (s : List Int) (ws : List (Option Int)) (ts : List T) (c : List Int) : cnt L s (ex ws ts) c = ts.foldl (goA L s ws) c := by
  induction ts generalizing c with
  | nil => rfl
  | cons t ts ih =>
    rw [show t :: ts = [t] ++ ts from rfl, ex_app, cnt_app, ih, ex_one]
    rfl
theorem tb_rep (n : Nat) (w : Bool) (ws : List (Option Int)) : tb (List.replicate n (w, ws)) = List.replicate n (!w, ws) := by simp [tb]
theorem goA_act {L : Ln} {s : List Int} {ws : List (Option Int)} (hn : 0 < L.rooms.length) : Act (fun c => c.length = L.ng) (goA L s ws) :=
  ⟨fun c t hc _ => cnt_len hc, fun c w a b hc ha hb => by
    unfold goA
    rw [← cnt_app, List.replicate_append_replicate]
    congr 2
    simp only
    omega, fun c w b hc hb => by
    have h := (cnt_thrice (L := L) (s := s) hn w (List.replicate b.toNat ws) hc).1
    simp only [List.map_replicate, tb_rep] at h
    exact h⟩
theorem ld_ex {L : Ln} {s : List Int} {ws : List (Option Int)} {a b : List T} (hn : 0 < L.rooms.length) (hs : s.length = L.rooms.length) (h : a.foldl (goA L s ws) (zr L) = b.foldl (goA L s ws) (zr L)) : ld L s (ex ws a) = ld L s (ex ws b) := by
  rw [ld_cnt hn hs, ld_cnt hn hs, cnt_ex, cnt_ex, h]
/-! how many beats -/
theorem cl_bs (w : Bool) : ∀ (n : Nat) {a : Int} {r : List T}, r.length ≤ n → Ps ((w, a) :: r) → bs (cl w ((w, a) :: r)) ≤ bs ((w, a) :: r)
  | n, a, [], _, _ => Int.le_refl _
  | n, a, [b], _, _ => Int.le_refl _
  | 0, a, b :: c :: r, hl, _ => by simp at hl
  | n + 1, a, b :: c :: r, hl, hp => by
    rw [cl_3]
    split
    · rename_i hc
      have hc' : b.2 ≤ c.2 ∧ b.2 ≤ a := Int.le_min.mp hc
      have h1 := hp.hd
      have h2 := hp.tl.hd
      simp only at h1
      have := cl_bs w n (a := c.2 - b.2 + a) (r := r) (by simp at hl; omega) (Ps.cons (by simp only; omega) hp.tl.tl.tl)
      simp at this ⊢
      omega
    · exact Int.le_refl _
theorem wt_bs {l : List T} {t : T} (hl : Ps l) (ht : 0 < t.2) : bs (wtR l t) ≤ bs l + t.2 := by
  obtain ⟨w, m⟩ := t
  match l, hl with
  | [], _ => simp [wt_nil]
  | (v, a) :: r, hl =>
    have := hl.hd
    simp only at this ht
    rcases bool_cases v w with rfl | rfl
    · rw [wt_same]
      have := cl_bs v _ (a := m + a) (r := r) (Nat.le_refl _) (Ps.cons (by simp only; omega) hl.tl)
      simp at this ⊢
      omega
    · rw [wt_other]
      have := cl_bs w _ (a := m) (r := (!w, a) :: r) (Nat.le_refl _) (Ps.cons ht hl)
      simp at this ⊢
      omega
theorem fold_bs : ∀ {ts l : List T}, Ps ts → St' l → bs (ts.foldl wtR l) ≤ bs l + bs ts
  | [], l, _, _ => by simp
  | t :: ts, l, ht, hl => by
    have h1 := wt_bs hl.pos ht.hd
    have h2 := fold_bs (ts := ts) ht.tl (stack_act.keep l t hl ht.hd)
    simp only [List.foldl_cons, bs_cons]
    omega
theorem bs_rev (l : List T) : bs l.reverse = bs l := by
  induction l with
  | nil => rfl
  | cons a l ih => rw [List.reverse_cons, bs_app, ih]; simp; omega
theorem fg_bs {ts : List T} (h : Ps ts) : bs (fg ts) ≤ bs ts := by
  have := fold_bs h St'.nil
  unfold fg fgR
  rw [bs_rev]
  simpa using this
theorem jnF_bs : ∀ (ts l : List T), bs (ts.foldl jnR l) = bs l + bs ts
  | [], l => by simp
  | t :: ts, l => by
    have h2 := jnF_bs ts (jnR l t)
    have h1 : bs (jnR l t) = bs l + t.2 := by
      unfold jnR
      split
      · simp
      · split
        · simp; omega
        · simp; omega
    simp only [List.foldl_cons, bs_cons]
    omega
theorem jn_bs (ts : List T) : bs (jn ts) = bs ts := by unfold jn; rw [bs_rev, jnF_bs]; simp
theorem jn_Ps {ts : List T} (h : Ps ts) : Ps (jn ts) := by
  have go : ∀ (ts l : List T), Ps ts → Ps l → Ps (ts.foldl jnR l) := by
    intro ts
    induction ts with
    | nil => intro l _ h; exact h
    | cons t ts ih =>
      intro l ht hl
      refine ih _ ht.tl ?_
      unfold jnR
      split
      · exact Ps.cons ht.hd (fun _ h => by simp at h)
      · rename_i a r
        have := ht.hd
        have := hl.hd
        split
        · exact Ps.cons (by simp only; omega) hl.tl
        · exact Ps.cons ht.hd hl
  intro t ht
  unfold jn at ht
  exact go ts [] h (fun _ h => by simp at h) t (by simpa using ht)
theorem beatsin_ok {ts : List T} (hl : ts.length ≤ 900) : f_beats_in [.lst (tvs ts)] = .ok (.int (bs ts)) := by
  rw [wpP_eq]
  simp_arith only [wp_dictE, enum_sq, sides_ok, f_beats_in, c_beats_in]
  unfold tvs
  refine wpC_list (fun t => .int t.2) (by omega) (fun t _ => ?_) ?_
  · simp_arith only [wp_dictE, enum_sq, sides_ok]
  · have e : ts.map (fun t : T => PV.int t.2) = (ts.map Prod.snd).map .int := by simp
    rw [e]
    have s : pvSum (.lst ((ts.map Prod.snd).map .int)) = some (.int (ts.map Prod.snd).sum) := by
      show (intsP _).map _ = _
      rw [intsP_map]; rfl
    simp_arith only [wp_dictE, enum_sq, sides_ok, s]
    rfl
/-! drawn turns -/
theorem turns_ok {n sz : Nat} {lg : Int} {xs : List PV} (hx : Box n xs) (hn : n < 2 ^ 39) (h0 : sz ≤ 100) (h1 : 1 ≤ lg) (h2 : lg ≤ 1000000) : WpB (fun p ys => ∃ ts : List T, p = .lst (tvs ts) ∧ ts.length ≤ sz ∧ (∀ t ∈ ts, 1 ≤ t.2 ∧ t.2 ≤ lg) ∧ Box (n + 300) ys) (fun _ _ => False) (f__law_turns xs [.int (sz : Nat), .int lg]) := by
  simp_arith only [wp_dictE, enum_sq, sides_ok, f__law_turns, c__law_turns]
  refine (take_ok hx (by omega) (by omega) (by omega)).use fun p ys hp => ?_
  obtain ⟨r, rfl, r0, r1, hb⟩ := hp
  have ⟨w0, ew⟩ : ∃ w, atI [PV.str "forth", .str "back"] r = some (.str (wy w)) := by
    have : r = 0 ∨ r = 1 := by omega
    rcases this with rfl | rfl
    · exact ⟨true, rfl⟩
    · exact ⟨false, rfl⟩
  simp_arith only [wp_dictE, enum_sq, sides_ok, ew]
  refine (take_ok hb (by omega) (by omega) (by omega)).use fun p ys hp => ?_
  obtain ⟨m, rfl, m0, m1, hb⟩ := hp
  simp_arith only [wp_dictE, enum_sq, sides_ok]
  rw [if_pos (by omega)]
  have hlen : (rangeP 0 m.toNat).length = m.toNat := by simp [rangeP]
  refine ws_forInv (fun i ρ => i ≤ m.toNat → ∃ us ts w x5, ρ = [.own us, .val (.int (sz : Nat)), .val (.int lg), .own (tvs ts), .val (.str (wy w)), x5] ∧ Box (n + 2 + 2 * i) us ∧ ts.length = i ∧ ∀ t ∈ ts, 1 ≤ t.2 ∧ t.2 ≤ lg) (fun _ => ⟨ys, [], w0, _, rfl, hb, rfl, by simp⟩) ?_ ?_
  · rintro i p ρ e h
    obtain ⟨hi, rfl⟩ := rangeP_get e
    obtain ⟨us, ts, w, x5, rfl, hb, hl, ht⟩ := h (by omega)
    simp_arith only [wp_dictE, enum_sq, sides_ok]
    refine (take_ok hb (by omega) (by omega) (by omega)).use fun p ys hp => ?_
    obtain ⟨a, rfl, a0, a1, hb⟩ := hp
    simp_arith only [wp_dictE, enum_sq, sides_ok]
    rw [if_pos (Ev.sz _ (by rw [tvs_length]; omega))]
    refine (take_ok hb (by omega) (by omega) (by omega)).use fun p ys hp => ?_
    obtain ⟨c, rfl, c0, c1, hb⟩ := hp
    have ht' : ∀ t ∈ ts ++ [(w, 1 + a)], 1 ≤ t.2 ∧ t.2 ≤ lg := fun t h => by
      rcases List.mem_append.mp h with h | h
      · exact ht t h
      · simp at h; subst h; simp only; omega
    simp_arith only [wp_dictE, enum_sq, sides_ok]
    by_cases hc : c = 0
    · rw [if_pos hc]
      exact fun _ => ⟨_, ts ++ [(w, 1 + a)], w, _, by simp [tvs]; rfl, hb.mono (by omega), by simp [hl], ht'⟩
    · rw [if_neg hc]
      exact fun _ => ⟨_, ts ++ [(w, 1 + a)], !w, _, by simp [tvs]; rfl, hb.mono (by omega), by simp [hl], ht'⟩
  · intro ρ h
    obtain ⟨us, ts, w, x5, rfl, hb, hl, ht⟩ := h (by omega)
    rw [hlen] at hb hl
    simp_arith only [wp_dictE, enum_sq, sides_ok]
    exact ⟨ts, rfl, by omega, ht, hb.mono (by omega)⟩
end Ev

set_option maxHeartbeats 2000000
set_option linter.all false
set_option Elab.async false
set_option maxRecDepth 100000
namespace Ev
open PySem L2
local macro_rules | `(tactic| simp_arith only [$ls,*]) => `(tactic| simp -implicitDefEqProofs only [Nat.reduceSub, Nat.reduceAdd, Int.reduceLT, Int.reduceLE, Int.reduceGT, Int.reduceGE, Int.reduceEq, Int.reducePow, Nat.reducePow, Nat.reduceMul, Int.reduceNeg, Int.reduceToNat, Int.reduceAbs, Int.reduceMod, Int.reduceDiv, Int.reduceAdd, Int.reduceSub, Int.reduceMul, Nat.reduceLT, Nat.reduceLeDiff, Nat.reduceEqDiff, decide_eq_true_eq, decide_true, decide_false, and_true, true_and, true_or, or_true, false_or, or_false, and_false, false_and, if_false, ite_true, ite_false, PV.int.injEq, PV.bl.injEq, exists_eq_left', Bool.not_true, Bool.not_false, Bool.false_eq_true, not_true_eq_false, not_false_eq_true, reduceCtorEq, Option.some.injEq, wp_ok, wp_exc, wp_bad, wo_some, wo_none, wo_if, wo_map, wo_bind, wp_of, ws_nx, ws_rt, ws_rf, ws_bk, ws_ct, ws_exc, ws_bad, wp_name, wp_c, wp_m2, wp_m1, wp_test, wp_truthN, wp_sumN, wp_lenN, wp_ixN, wp_and, wp_or, wp_notT, wp_andV, wp_orV, wp_notV, wp_if, wp_ifF, wp_args0, wp_args1, wp_tup, wp_frz, wp_callB, wp_callF, wp_cat, wp_repL, wp_chain, wp_cut, wp_part0, wp_part1, wp_call, wp_callFr, wp_callBx, wp_popN, wp_index, wp_yes, wp_seqI, wp_range, wp_revI, wp_zip, wp_zipB, wp_zipS, wp_enum, wp_zip3, wp_enZ, wp_callK, wp_callKF, wp_callBxF, wp_cps0, wp_cps1, wp_cpv, wp_cpf, ws_parG, ws_seq, ws_nil, ws_never, ws_pass, ws_ret, ws_retF, ws_retN, ws_set, ws_setF, ws_if, ws_asg, ws_par, ws_par3, ws_parF, ws_aug, ws_append, ws_setIx, ws_reverse, ws_clear, ws_extend, ws_popAt, ws_insert, wp_cmpN, wp_callBr, wpP_runP, wpF_runF, wpB_runB, wpP_ok, wpF_ok, wpP_exc, wpB_ok, ws_for', ws_forNil, wp_comp, wpC_nil, ev_g0, ev_gs, ev_gn, ev_s0, ev_ss, ev_m0, ev_m1, ev_a0, ev_a1, ev_r0, ev_rs, ev_l0, ev_l1, ev_d0, ev_d1, ev_ob, ev_om, ev_it, ev_if, ev_gl, ev_gl1, ev_dl, ev_dl1, ev_gla, ev_dla, add_ii, addI_ii, sub_ii, add_ll, add_tt, mod_ii, div_ii, pow_ii, mul_ii, mul_li, lt_ii, le_ii, gt_ii, ge_ii, neg_i, eq_ii, ne_ii, eq_bb, ne_bb, xor_f, xor_t, eq_str, ne_str, is_bb, isnot_bb, is_n, is_in, is_sn, is_bn, is_tn, is_ln, isnot_n, isnot_in, truth_b, truth_i, truth_l, truth_t, len_l, len_t, len_s, ix_l, ix_t, ix_s, seq_l, seq_t, seq_s, tuple_l, tuple_t, list_l, list_t, list_s, on1_p, abs_i, int_b, int_i, max_ii, min_ii, max1_l, min1_l, rev_l, rev_t, zip_ll, zip_tt, cat_ll, range_1, range_2, slot_0, slot_s, zip3_lll, zip3_llt, zip3_ltl, zip3_ltt, zip3_tll, zip3_tlt, zip3_ttl, zip3_ttt, zipB_ll, zipB_tt, zipB_lt, zipB_tl, zipS_ll, zipS_tt, zipS_lt, zipS_tl, omap_en, enum_l, enum_t, down_l, down_t, down_t0, setAll_0, setAll_1, atom_n, atom_b, atom_i, atom_s, permP_0, permP_1, getD_0, getD_s, isi_int_i, isi_int_b, isi_bool_i, isi_bool_b, isi_tup_t, isi_tup_l, isi_lst_l, isi_lst_t, isi_str_s, isi_str_i, isi_str_b, isi_str_n, isi_lt_l, isi_lt_t, isi_lt_i, isi_lt_b, isi_lt_s, isi_lt_n, at_0, at_1, at_2, at_3, at_last, mg_name, mg_tup, mg_lst, mg_nil, mg_cons, own0_own, startR_eq, wipe_0, wipe_1, back_0, back_1, ixN_3_0, ixN_3_1, ixN_3_2, szl, sze, wp_dict, eq_ints, eq_ww, eq_wf, sq_t, sq_f, ix_sq, len_sq, tuple_sq, list_sq, seq_sq, revI_sq, mg_sq, zipS_sq, zipS_st, zipS_ts, zipB_sq, zipB_st, zipB_ts, eq_fm, eq_fmr, iv_len, wvs_len, isring_ok, bins_ok, gates_ok, behind_ok, ahead_ok, out_ok, eq_iv, ne_iv, ix_tv0, ix_tv1, tv_mk, mg_tv, tuple_tv, in_ww, isi_tv, len_tv, eq_tvs, dix_w, lnv_0, lnv_1, sum_iv, wp_dictE, enum_sq, sides_ok, $ls,*])
/-! turns taken back -/
def fl (t : T) : T := (!t.1, t.2)
def bk (ts : List T) : List T := ts.reverse.map fl
@[simp] theorem fl_fl (t : T) : fl (fl t) = t := by simp [fl]
@[simp] theorem fl_2 (t : T) : (fl t).2 = t.2 := rfl
theorem bk_bk (ts : List T) : bk (bk ts) = ts := by simp [bk, Function.comp_def]
theorem bk_app (a b : List T) : bk (a ++ b) = bk b ++ bk a := by simp [bk]
theorem bk_len (a : List T) : (bk a).length = a.length := by simp [bk]
theorem bk_Ps {a : List T} (h : Ps a) : Ps (bk a) := fun t ht => by
  unfold bk at ht
  obtain ⟨u, hu, rfl⟩ := List.mem_map.mp ht
  exact h u (by simpa using hu)
theorem Act.sub {V : List T → Prop} : True := trivial
/-- stacks, as they are -/
abbrev SS := {l : List T // St' l}
def AS (s : SS) (t : T) : SS := if h : 0 < t.2 then ⟨wtR s.1 t, stack_act.keep s.1 t s.2 h⟩ else s
theorem AS_val {s : SS} {t : T} (h : 0 < t.2) : (AS s t).1 = wtR s.1 t := by unfold AS; rw [dif_pos h]
theorem AS_fold : ∀ {ts : List T} {s : SS}, Ps ts → (ts.foldl AS s).1 = ts.foldl wtR s.1
  | [], s, _ => rfl
  | t :: ts, s, h => by
    simp only [List.foldl_cons]
    rw [AS_fold h.tl, AS_val h.hd]
theorem AS_act : Act (fun _ : SS => True) AS :=
  ⟨fun _ _ _ _ => trivial, fun s w a b _ ha hb => by
    apply Subtype.ext
    rw [AS_val (show 0 < (w, b).2 from hb), AS_val (show 0 < (w, a).2 from ha), AS_val (show 0 < (w, a + b).2 by show 0 < a + b; omega)]
    exact stack_act.add _ _ _ _ s.2 ha hb, fun s w b _ hb => by
    apply Subtype.ext
    rw [AS_val (show 0 < (w, b).2 from hb), AS_val (show 0 < (!w, b).2 from hb), AS_val (show 0 < (w, b).2 from hb)]
    exact stack_act.fbf _ _ _ s.2 hb⟩
/-- the other way about -/
def AO (F : SS → SS) (t : T) : SS → SS := fun s => F (AS s (fl t))
theorem AO_act : Act (fun _ : SS → SS => True) AO :=
  ⟨fun _ _ _ _ => trivial, fun F w a b _ ha hb => by
    funext s
    show F (AS (AS s (!w, b)) (!w, a)) = F (AS s (!w, a + b))
    rw [AS_act.add s (!w) b a trivial hb ha, Int.add_comm], fun F w b _ hb => by
    funext s
    show F (AS (AS (AS s (!w, b)) (!!w, b)) (!w, b)) = F (AS s (!w, b))
    rw [AS_act.fbf s (!w) b trivial hb]⟩
theorem AO_fold : ∀ (ts : List T) (F : SS → SS) (s : SS), ts.foldl AO F s = F ((bk ts).foldl AS s)
  | [], F, s => rfl
  | t :: ts, F, s => by
    rw [show t :: ts = [t] ++ ts from rfl, bk_app, List.foldl_append, List.foldl_append]
    rw [AO_fold ts]
    rfl
/-- alike taken back -/
theorem Sim.bk_fg {ts : List T} (h : Ps ts) : Sim (bk (Ev.fg ts)) (bk ts) := fun l hl => by
  have e := AO_act.fg (x := id) (ts := ts) trivial h
  have e2 := congrFun e ⟨l, hl⟩
  rw [AO_fold, AO_fold] at e2
  have e3 := congrArg Subtype.val e2
  simp only [id] at e3
  rw [AS_fold (bk_Ps (fg_Ps h)), AS_fold (bk_Ps h)] at e3
  exact e3
theorem Sim.of_eq {a b : List T} (ha : Ps a) (hb : Ps b) (h : Ev.fg a = Ev.fg b) : Sim a b := (Sim.of_fg ha).symm.trans (by rw [h]; exact Sim.of_fg hb)
theorem Sim.bk {a b : List T} (ha : Ps a) (hb : Ps b) (h : Sim a b) : Sim (Ev.bk a) (Ev.bk b) := by
  have e := h.fg
  have h1 := Sim.bk_fg ha
  have h2 := Sim.bk_fg hb
  rw [e] at h1
  exact h1.symm.trans h2
/-! what is left as it is -/
theorem Alt.snoc : ∀ {l : List T} {a b : T}, Alt (l ++ [a]) → a.1 = (!b.1) → Alt (l ++ [a, b])
  | [], a, b, _, h => ⟨h, trivial⟩
  | [x], a, b, h, e => ⟨h.1, e, trivial⟩
  | x :: y :: l, a, b, h, e => ⟨h.1, Alt.snoc (l := y :: l) h.2 e⟩
theorem Alt.rev : ∀ {l : List T}, Alt l → Alt l.reverse
  | [], _ => trivial
  | [a], _ => trivial
  | a :: b :: r, h => by
    have ih := Alt.rev h.2
    simp only [List.reverse_cons, List.append_assoc, List.singleton_append] at ih ⊢
    exact Alt.snoc ih (by rw [h.1]; simp)
theorem Red.snoc : ∀ {l : List T} {a b c : T}, Red (l ++ [a, b]) → ¬ (b.2 ≤ min a.2 c.2) → Red (l ++ [a, b, c])
  | [], a, b, c, _, h => ⟨by rw [Int.min_comm]; exact h, trivial⟩
  | [x], a, b, c, h, e => ⟨h.1, by rw [Int.min_comm]; exact e, trivial⟩
  | [x, y], a, b, c, h, e => ⟨h.1, h.2.1, by rw [Int.min_comm]; exact e, trivial⟩
  | x :: y :: z :: l, a, b, c, h, e => ⟨h.1, Red.snoc (l := y :: z :: l) h.2 e⟩
theorem Red.rev : ∀ {l : List T}, Red l → Red l.reverse
  | [], _ => trivial
  | [a], _ => trivial
  | [a, b], _ => trivial
  | a :: b :: c :: r, h => by
    have ih := Red.rev h.2
    simp only [List.reverse_cons, List.append_assoc, List.singleton_append, List.cons_append, List.nil_append] at ih ⊢
    exact Red.snoc ih h.1
theorem Alt.map : ∀ {l : List T}, Alt l → Alt (l.map fl)
  | [], _ => trivial
  | [a], _ => trivial
  | a :: b :: r, h => ⟨by simp [fl, h.1], Alt.map h.2⟩
theorem Red.map : ∀ {l : List T}, Red l → Red (l.map fl)
  | [], _ => trivial
  | [a], _ => trivial
  | [a, b], _ => trivial
  | a :: b :: c :: r, h => ⟨h.1, Red.map h.2⟩
theorem St'.bk {l : List T} (h : St' l) : St' (Ev.bk l) := ⟨h.alt.rev.map, bk_Ps h.pos, h.red.rev.map⟩
theorem Ps.rev {l : List T} (h : Ps l) : Ps l.reverse := fun t ht => h t (by simpa using ht)
theorem St'.rev {l : List T} (h : St' l) : St' l.reverse := ⟨h.alt.rev, h.pos.rev, h.red.rev⟩
theorem fold_red : ∀ (n : Nat) {l : List T}, l.length ≤ n → St' l → l.reverse.foldl wtR [] = l
  | _, [], _, _ => rfl
  | 0, _ :: _, h, _ => by simp at h
  | n + 1, a :: r, hn, h => by
    have st : St' r := ⟨h.alt.tl, h.pos.tl, h.red.tl⟩
    have ih := fold_red n (l := r) (by simp at hn; omega) st
    rw [List.reverse_cons, List.foldl_append, ih]
    show wtR r a = a :: r
    match r, h with
    | [], h => rfl
    | b :: r, h =>
      obtain ⟨w, m⟩ := a
      obtain ⟨v, k⟩ := b
      have : v = !w := by have := h.alt.1; simp only at this; rw [this]; simp
      subst this
      rw [wt_other]
      exact cl_red h.red
/-- what is left of what is left as it is -/
theorem fg_St {l : List T} (h : St' l) : fg l = l := by
  have := fold_red _ (Nat.le_refl _) h.rev
  unfold fg fgR
  rw [List.reverse_reverse] at this
  rw [this, List.reverse_reverse]
theorem fg_isSt {ts : List T} (h : Ps ts) : St' (fg ts) := (fgR_St h).rev
theorem fg_bk {ts : List T} (h : Ps ts) : fg (bk ts) = bk (fg ts) := by
  rw [← (Sim.bk_fg h).fg]
  exact fg_St (fg_isSt h).bk
/-! there, back and there again -/
theorem Sim.four {w : Bool} {a b : Int} (hb : 0 < b) (hab : b ≤ a) : Sim [(w, a), (!w, b), (w, b)] [(w, a)] := fun l hl => by
  show wtR (wtR (wtR l (w, a)) (!w, b)) (w, b) = wtR l (w, a)
  rw [stack_act.three hl hb hab (Int.le_refl _)]
  congr 2
  omega
theorem Red.fall : ∀ {a b : T} {r : List T}, Red (a :: b :: r) → b.2 < a.2 → ∀ {l : List T} {y z : T}, a :: b :: r = l ++ [y, z] → z.2 < y.2
  | a, b, [], h, hab, l, y, z, e => by
    match l, e with
    | [], e => cases e; exact hab
    | [x], e => cases e
    | x :: x' :: l, e => simp at e
  | a, b, c :: r, h, hab, l, y, z, e => by
    have hc : c.2 < b.2 := by
      by_cases hq : c.2 < b.2
      · exact hq
      · exact absurd (Int.le_min.mpr ⟨by omega, by omega⟩) h.1
    match l, e with
    | [], e => simp at e
    | x :: l, e =>
      simp at e
      exact Red.fall (a := b) (b := c) h.2 hc (l := l) (by simpa using e.2)
theorem Alt.last : ∀ {l : List T} {y z : T}, Alt (l ++ [y, z]) → y.1 = !z.1
  | [], y, z, h => h.1
  | [x], y, z, h => h.2.1
  | x :: x' :: l, y, z, h => Alt.last (l := x' :: l) h.2
theorem St'.pre {l : List T} {z : T} (h : St' (l ++ [z])) : St' l := by
  have := h.rev
  rw [List.reverse_append] at this
  have h2 : St' l.reverse := ⟨this.alt.tl, this.pos.tl, this.red.tl⟩
  have := h2.rev
  rwa [List.reverse_reverse] at this
theorem Ps.l {a b : List T} (h : Ps (a ++ b)) : Ps a := fun t ht => h t (List.mem_append_left _ ht)
theorem Ps.r {a b : List T} (h : Ps (a ++ b)) : Ps b := fun t ht => h t (List.mem_append_right _ ht)
theorem Sim.thrice : ∀ (n : Nat) {x : List T}, x.length ≤ n → St' x → Sim (x ++ Ev.bk x ++ x) x
  | _, [], _, _ => Sim.refl _
  | 0, _ :: _, h, _ => by simp at h
  | n + 1, [t], _, h => fun l hl => stack_act.fbf l t.1 t.2 hl h.pos.hd
  | n + 1, a :: b :: r, hn, h => by
    obtain ⟨w, m⟩ := a
    obtain ⟨v, k⟩ := b
    have ev : v = !w := by have := h.alt.1; simp only at this; rw [this]; simp
    subst ev
    have hm := h.pos.hd
    have hk := h.pos.tl.hd
    simp only at hm hk
    by_cases hmk : m ≤ k
    · have st : St' ((!w, k) :: r) := ⟨h.alt.tl, h.pos.tl, h.red.tl⟩
      have ih := Sim.thrice n (x := (!w, k) :: r) (by simp at hn ⊢; omega) st
      have f4 := Sim.four (w := w) (a := k) (b := m) hm hmk
      have pr : Ps r := h.pos.tl.tl
      have pb : Ps (Ev.bk r) := bk_Ps pr
      -- (w,m) x' bk r (w,k) (!w,m) (w,m) (!w,k) r
      have e1 : (w, m) :: (!w, k) :: r ++ Ev.bk ((w, m) :: (!w, k) :: r) ++ (w, m) :: (!w, k) :: r = ([(w, m)] ++ ((!w, k) :: r) ++ Ev.bk r) ++ ([(w, k), (!w, m), (w, m)] ++ ((!w, k) :: r)) := by
        simp [Ev.bk, fl]
      have e2 : ([(w, m)] ++ ((!w, k) :: r) ++ Ev.bk r) ++ ([(w, k)] ++ ((!w, k) :: r)) = [(w, m)] ++ ((!w, k) :: r ++ Ev.bk ((!w, k) :: r) ++ (!w, k) :: r) := by
        simp [Ev.bk, fl]
      rw [e1]
      have p1 : Ps ([(w, m)] ++ ((!w, k) :: r) ++ Ev.bk r) := Ps.app (Ps.app (Ps.cons hm (fun _ z => by simp at z)) h.pos.tl) pb
      have s1 := Sim.app (Sim.refl ([(w, m)] ++ ((!w, k) :: r) ++ Ev.bk r)) (Sim.app f4 (Sim.refl ((!w, k) :: r)) (Ps.cons (by show 0 < k; omega) (fun _ z => by simp at z))) p1
      refine s1.trans ?_
      rw [e2]
      exact Sim.app (Sim.refl [(w, m)]) ih (Ps.cons hm (fun _ z => by simp at z))
    · -- falling: the last one
      have ⟨l, y, z, e⟩ : ∃ l y z, ((w, m) :: (!w, k) :: r : List T) = l ++ [y, z] := by
        have hl : ((w, m) :: (!w, k) :: r : List T).length ≥ 2 := by simp
        generalize ((w, m) :: (!w, k) :: r : List T) = q at hl
        have : ∃ a b s, q.reverse = a :: b :: s := by
          have : q.reverse.length ≥ 2 := by simpa using hl
          match q.reverse, this with
          | a :: b :: s, _ => exact ⟨a, b, s, rfl⟩
        obtain ⟨a, b, s, es⟩ := this
        refine ⟨s.reverse, b, a, ?_⟩
        have := congrArg List.reverse es
        rw [List.reverse_reverse] at this
        rw [this]; simp
      have hf := Red.fall h.red (by show k < m; omega) e
      rw [e] at h hn ⊢
      have ea := Alt.last h.alt
      obtain ⟨u, a⟩ := y
      obtain ⟨v, b⟩ := z
      simp only at ea hf
      have ev : v = !u := by rw [ea]; simp
      subst ev
      have st : St' (l ++ [(u, a)]) := by
        have : l ++ [(u, a), (!u, b)] = (l ++ [(u, a)]) ++ [(!u, b)] := by simp
        rw [this] at h
        exact h.pre
      have hb : 0 < b := h.pos (!u, b) (by simp)
      have ha : 0 < a := h.pos (u, a) (by simp)
      have ih := Sim.thrice n (x := l ++ [(u, a)]) (by simp at hn ⊢; omega) st
      have f4 := Sim.four (w := u) (a := a) (b := b) hb (by omega)
      have pl : Ps l := h.pos.l
      have pb : Ps (Ev.bk l) := bk_Ps pl
      have e1 : l ++ [(u, a), (!u, b)] ++ Ev.bk (l ++ [(u, a), (!u, b)]) ++ (l ++ [(u, a), (!u, b)]) = l ++ ([(u, a), (!u, b), (u, b)] ++ ([(!u, a)] ++ Ev.bk l ++ (l ++ [(u, a), (!u, b)]))) := by
        simp [Ev.bk, fl]
      have e2 : l ++ ([(u, a)] ++ ([(!u, a)] ++ Ev.bk l ++ (l ++ [(u, a), (!u, b)]))) = (l ++ [(u, a)] ++ Ev.bk (l ++ [(u, a)]) ++ (l ++ [(u, a)])) ++ [(!u, b)] := by
        simp [Ev.bk, fl]
      rw [e1]
      have s1 := Sim.app (Sim.refl l) (Sim.app f4 (Sim.refl ([(!u, a)] ++ Ev.bk l ++ (l ++ [(u, a), (!u, b)]))) (Ps.cons ha (fun _ z => by simp at z))) pl
      refine s1.trans ?_
      rw [e2]
      have s2 := Sim.app ih (Sim.refl [(!u, b)]) st.pos
      have e3 : (l ++ [(u, a)]) ++ [(!u, b)] = l ++ [(u, a), (!u, b)] := by simp
      rw [e3] at s2
      exact s2
/-- turns, taken back, and again -/
theorem Sim.tbt {x : List T} (h : Ps x) : Sim (x ++ Ev.bk x ++ x) x := by
  have s1 := Sim.thrice _ (Nat.le_refl _) (fg_isSt h)
  have s2 := Sim.of_fg h
  have s3 := Sim.bk_fg h
  have s4 := Sim.app (Sim.app s2 s3 h) s2 (Ps.app h (bk_Ps h))
  exact s4.symm.trans (s1.trans s2)
theorem fg_tbt {x : List T} (h : Ps x) : fg (x ++ bk x ++ x) = fg x := (Sim.tbt h).fg
theorem fg_btb {x : List T} (h : Ps x) : fg (bk x ++ x ++ bk x) = bk (fg x) := by
  have := fg_tbt (bk_Ps h)
  rw [bk_bk] at this
  rw [this, fg_bk h]
theorem bk_whole {x : List T} (h : Ps x) : bk (fg (x ++ bk x)) = fg (x ++ bk x) := by
  rw [← fg_bk (Ps.app h (bk_Ps h)), bk_app, bk_bk]
theorem fg_whole2 {x : List T} (h : Ps x) : fg (fg (x ++ bk x) ++ fg (x ++ bk x)) = fg (x ++ bk x) := by
  have hp := Ps.app h (bk_Ps h)
  have s := Sim.of_fg hp
  have s2 := Sim.app s s hp
  rw [s2.fg]
  have s3 := Sim.app (Sim.tbt h) (Sim.refl (bk x)) h
  have e : x ++ bk x ++ (x ++ bk x) = x ++ bk x ++ x ++ bk x := by simp
  rw [e]
  exact s3.fg
/-! told of such -/
def nt (ts : List T) : Int := (ts.map fun t => if t.1 then t.2 else -t.2).sum
@[simp] theorem nt_nil : nt [] = 0 := rfl
@[simp] theorem nt_cons (t : T) (ts : List T) : nt (t :: ts) = (if t.1 then t.2 else -t.2) + nt ts := by simp [nt]
theorem nt_app (a b : List T) : nt (a ++ b) = nt a + nt b := by simp [nt]
theorem nt_bk (ts : List T) : nt (bk ts) = -nt ts := by
  induction ts with
  | nil => rfl
  | cons t ts ih =>
    rw [show t :: ts = [t] ++ ts from rfl, bk_app, nt_app, nt_app, ih]
    obtain ⟨w, m⟩ := t
    cases w <;> simp [bk, fl] <;> omega
theorem bs_bk (ts : List T) : bs (bk ts) = bs ts := by
  induction ts with
  | nil => rfl
  | cons t ts ih =>
    rw [show t :: ts = [t] ++ ts from rfl, bk_app, bs_app, bs_app, ih]
    simp [bk, fl]
    omega
theorem net_ok {ts : List T} (hl : ts.length ≤ 900) : f_net [.lst (tvs ts)] = .ok (.int (nt ts)) := by
  rw [wpP_eq]
  simp_arith only [f_net, c_net]
  unfold tvs
  refine wpC_list (fun t => .int (if t.1 then t.2 else -t.2)) (by omega) (fun t _ => ?_) ?_
  · obtain ⟨w, m⟩ := t
    cases w <;> simp_arith only []
  · have e : ts.map (fun t : T => PV.int (if t.1 then t.2 else -t.2)) = (ts.map fun t : T => if t.1 then t.2 else -t.2).map .int := by simp
    rw [e]
    have s : pvSum (.lst ((ts.map fun t : T => if t.1 then t.2 else -t.2).map .int)) = some (.int (ts.map fun t : T => if t.1 then t.2 else -t.2).sum) := by
      show (intsP _).map _ = _
      rw [intsP_map]; rfl
    simp_arith only [s]
    rfl
theorem contrary_ok (w : Bool) : f_contrary [.str (wy w)] = .ok (.str (wy (!w))) := by
  rw [wpP_eq]
  cases w <;> simp_arith only [f_contrary, c_contrary] <;> rfl
theorem back_ok {ts : List T} (hl : ts.length ≤ 900) : f_back_turns [.lst (tvs ts)] = .ok (.lst (tvs (bk ts))) := by
  rw [wpP_eq]
  simp_arith only [f_back_turns, c_back_turns]
  unfold tvs
  rw [← List.map_reverse]
  refine wpC_list (fun t => tv (fl t)) (by simp; omega) (fun t _ => ?_) ?_
  · simp_arith only [contrary_ok]
    rfl
  · simp [tvs, bk]
theorem tvs_of {zs : List PV} {P : T → Prop} (h : ∀ z ∈ zs, ∃ t, z = tv t ∧ P t) : ∃ ts : List T, zs = tvs ts ∧ ∀ t ∈ ts, P t := by
  induction zs with
  | nil => exact ⟨[], rfl, by simp⟩
  | cons z zs ih =>
    obtain ⟨t, rfl, ht⟩ := h z (by simp)
    obtain ⟨ts, rfl, hts⟩ := ih fun z hz => h z (List.mem_cons_of_mem _ hz)
    exact ⟨t :: ts, rfl, fun u hu => by rcases List.mem_cons.mp hu with rfl | hu <;> first | exact ht | exact hts u hu⟩
theorem all_of {ps zs : List PV} {S : PV → PV → Prop} (hl : zs.length = ps.length) (hz : ∀ (i : Nat) p, ps[i]? = some p → ∃ z, zs[i]? = some z ∧ S p z) : ∀ z ∈ zs, ∃ p ∈ ps, S p z := fun z h => by
  obtain ⟨j, hj⟩ := List.mem_iff_getElem?.mp h
  have hj' := (List.getElem?_eq_some_iff.mp hj).1
  obtain ⟨y, e1, e2⟩ := hz j _ (List.getElem?_eq_getElem (by omega))
  rw [hj] at e1
  cases e1
  exact ⟨_, List.getElem_mem _, e2⟩
/-- what turns come down to does the same -/
theorem Act.sim {X : Type} {V : X → Prop} {A : X → T → X} (h : Act V A) {x : X} {a b : List T} (hx : V x) (ha : Ps a) (hb : Ps b) (e : Ev.fg a = Ev.fg b) : a.foldl A x = b.foldl A x := by
  rw [← h.fg hx ha, ← h.fg hx hb, e]
theorem ld_fg {L : Ln} {s : List Int} {ws : List (Option Int)} {a b : List T} (hn : 0 < L.rooms.length) (hs : s.length = L.rooms.length) (ha : Ps a) (hb : Ps b) (e : fg a = fg b) : ld L s (ex ws a) = ld L s (ex ws b) :=
  ld_ex hn hs ((goA_act hn).sim zr_len ha hb e)
end Ev

set_option maxHeartbeats 2000000
set_option linter.all false
set_option Elab.async false
set_option maxRecDepth 100000
namespace Ev
open PySem L2
local macro_rules | `(tactic| simp_arith only [$ls,*]) => `(tactic| simp -implicitDefEqProofs only [Nat.reduceSub, Nat.reduceAdd, Int.reduceLT, Int.reduceLE, Int.reduceGT, Int.reduceGE, Int.reduceEq, Int.reducePow, Nat.reducePow, Nat.reduceMul, Int.reduceNeg, Int.reduceToNat, Int.reduceAbs, Int.reduceMod, Int.reduceDiv, Int.reduceAdd, Int.reduceSub, Int.reduceMul, Nat.reduceLT, Nat.reduceLeDiff, Nat.reduceEqDiff, decide_eq_true_eq, decide_true, decide_false, and_true, true_and, true_or, or_true, false_or, or_false, and_false, false_and, if_false, ite_true, ite_false, PV.int.injEq, PV.bl.injEq, exists_eq_left', Bool.not_true, Bool.not_false, Bool.false_eq_true, not_true_eq_false, not_false_eq_true, reduceCtorEq, Option.some.injEq, wp_ok, wp_exc, wp_bad, wo_some, wo_none, wo_if, wo_map, wo_bind, wp_of, ws_nx, ws_rt, ws_rf, ws_bk, ws_ct, ws_exc, ws_bad, wp_name, wp_c, wp_m2, wp_m1, wp_test, wp_truthN, wp_sumN, wp_lenN, wp_ixN, wp_and, wp_or, wp_notT, wp_andV, wp_orV, wp_notV, wp_if, wp_ifF, wp_args0, wp_args1, wp_tup, wp_frz, wp_callB, wp_callF, wp_cat, wp_repL, wp_chain, wp_cut, wp_part0, wp_part1, wp_call, wp_callFr, wp_callBx, wp_popN, wp_index, wp_yes, wp_seqI, wp_range, wp_revI, wp_zip, wp_zipB, wp_zipS, wp_enum, wp_zip3, wp_enZ, wp_callK, wp_callKF, wp_callBxF, wp_cps0, wp_cps1, wp_cpv, wp_cpf, ws_parG, ws_seq, ws_nil, ws_never, ws_pass, ws_ret, ws_retF, ws_retN, ws_set, ws_setF, ws_if, ws_asg, ws_par, ws_par3, ws_parF, ws_aug, ws_append, ws_setIx, ws_reverse, ws_clear, ws_extend, ws_popAt, ws_insert, wp_cmpN, wp_callBr, wpP_runP, wpF_runF, wpB_runB, wpP_ok, wpF_ok, wpP_exc, wpB_ok, ws_for', ws_forNil, wp_comp, wpC_nil, ev_g0, ev_gs, ev_gn, ev_s0, ev_ss, ev_m0, ev_m1, ev_a0, ev_a1, ev_r0, ev_rs, ev_l0, ev_l1, ev_d0, ev_d1, ev_ob, ev_om, ev_it, ev_if, ev_gl, ev_gl1, ev_dl, ev_dl1, ev_gla, ev_dla, add_ii, addI_ii, sub_ii, add_ll, add_tt, mod_ii, div_ii, pow_ii, mul_ii, mul_li, lt_ii, le_ii, gt_ii, ge_ii, neg_i, eq_ii, ne_ii, eq_bb, ne_bb, xor_f, xor_t, eq_str, ne_str, is_bb, isnot_bb, is_n, is_in, is_sn, is_bn, is_tn, is_ln, isnot_n, isnot_in, truth_b, truth_i, truth_l, truth_t, len_l, len_t, len_s, ix_l, ix_t, ix_s, seq_l, seq_t, seq_s, tuple_l, tuple_t, list_l, list_t, list_s, on1_p, abs_i, int_b, int_i, max_ii, min_ii, max1_l, min1_l, rev_l, rev_t, zip_ll, zip_tt, cat_ll, range_1, range_2, slot_0, slot_s, zip3_lll, zip3_llt, zip3_ltl, zip3_ltt, zip3_tll, zip3_tlt, zip3_ttl, zip3_ttt, zipB_ll, zipB_tt, zipB_lt, zipB_tl, zipS_ll, zipS_tt, zipS_lt, zipS_tl, omap_en, enum_l, enum_t, down_l, down_t, down_t0, setAll_0, setAll_1, atom_n, atom_b, atom_i, atom_s, permP_0, permP_1, getD_0, getD_s, isi_int_i, isi_int_b, isi_bool_i, isi_bool_b, isi_tup_t, isi_tup_l, isi_lst_l, isi_lst_t, isi_str_s, isi_str_i, isi_str_b, isi_str_n, isi_lt_l, isi_lt_t, isi_lt_i, isi_lt_b, isi_lt_s, isi_lt_n, at_0, at_1, at_2, at_3, at_last, mg_name, mg_tup, mg_lst, mg_nil, mg_cons, own0_own, startR_eq, wipe_0, wipe_1, back_0, back_1, ixN_3_0, ixN_3_1, ixN_3_2, szl, sze, wp_dict, eq_ints, eq_ww, eq_wf, sq_t, sq_f, ix_sq, len_sq, tuple_sq, list_sq, seq_sq, revI_sq, mg_sq, zipS_sq, zipS_st, zipS_ts, zipB_sq, zipB_st, zipB_ts, eq_fm, eq_fmr, iv_len, wvs_len, isring_ok, bins_ok, gates_ok, behind_ok, ahead_ok, out_ok, eq_iv, ne_iv, ix_tv0, ix_tv1, tv_mk, mg_tv, tuple_tv, in_ww, isi_tv, len_tv, eq_tvs, dix_w, lnv_0, lnv_1, sum_iv, wp_dictE, enum_sq, sides_ok, $ls,*])
/-! so often -/
def rp (n : Nat) (l : List T) : List T := (List.replicate n l).flatten
theorem rp_0 (l : List T) : rp 0 l = [] := rfl
theorem rp_1 (l : List T) : rp 1 l = l := by simp [rp]
theorem rp_add (a b : Nat) (l : List T) : rp (a + b) l = rp a l ++ rp b l := by
  unfold rp; rw [← List.replicate_append_replicate, List.flatten_append]
theorem rp_succ (n : Nat) (l : List T) : rp (n + 1) l = rp n l ++ l := by rw [rp_add, rp_1]
theorem rp_succ' (n : Nat) (l : List T) : rp (n + 1) l = l ++ rp n l := by rw [Nat.add_comm, rp_add, rp_1]
theorem rp_two (n : Nat) (l : List T) : rp n (l ++ l) = rp (2 * n) l := by
  induction n with
  | zero => rfl
  | succ n ih => rw [rp_succ, ih, show 2 * (n + 1) = 2 * n + 1 + 1 by omega, rp_succ, rp_succ]; simp
theorem rp_Ps {l : List T} (h : Ps l) (n : Nat) : Ps (rp n l) := by
  induction n with
  | zero => exact fun _ z => by simp [rp_0] at z
  | succ n ih => rw [rp_succ]; exact Ps.app ih h
theorem rp_len (n : Nat) (l : List T) : (rp n l).length = n * l.length := by
  induction n with
  | zero => simp [rp_0]
  | succ n ih => rw [rp_succ, List.length_append, ih, Nat.add_mul, Nat.one_mul]
theorem rp_bs (n : Nat) (l : List T) : bs (rp n l) = n * bs l := by
  induction n with
  | zero => simp [rp_0]
  | succ n ih => rw [rp_succ, bs_app, ih]; simp [Int.add_mul]
theorem rp_nt (n : Nat) (l : List T) : nt (rp n l) = n * nt l := by
  induction n with
  | zero => simp [rp_0]
  | succ n ih => rw [rp_succ, nt_app, ih]; simp [Int.add_mul]
theorem Ps.nil : Ps [] := fun _ z => by simp at z
theorem Sim.rp {a b : List T} (h : Sim a b) (hb : Ps b) (n : Nat) : Sim (Ev.rp n a) (Ev.rp n b) := by
  induction n with
  | zero => exact Sim.refl _
  | succ n ih => rw [rp_succ, rp_succ]; exact Sim.app ih h (rp_Ps hb n)
theorem soF_St : ∀ (n many : Nat) {found twice : List T}, St' found → Ps twice → St' (soF n many found twice)
  | 0, _, found, twice, h, _ => h
  | n + 1, many, found, twice, h, ht => by
    rw [soF]
    by_cases h0 : 0 < many
    · rw [if_pos h0]
      refine soF_St n _ ?_ ?_
      · by_cases h1 : many % 2 = 1
        · rw [if_pos h1]; exact fg_isSt (Ps.app h.pos ht)
        · rw [if_neg h1]; exact h
      · by_cases h1 : 0 < many / 2
        · rw [if_pos h1]; exact fg_Ps (Ps.app ht ht)
        · rw [if_neg h1]; exact ht
    · rw [if_neg h0]; exact h
theorem soF_sim : ∀ (n many : Nat) {found twice : List T}, many < 2 ^ n → St' found → Ps twice → Sim (soF n many found twice) (found ++ Ev.rp many twice)
  | 0, many, found, twice, hm, _, _ => by
    have : many = 0 := by simp at hm; omega
    subst this
    rw [rp_0, List.append_nil]
    exact Sim.refl _
  | n + 1, many, found, twice, hm, h, ht => by
    rw [soF]
    by_cases h0 : 0 < many
    · rw [if_pos h0]
      have pf : Ps (if many % 2 = 1 then fg (found ++ twice) else found) := by
        split
        · exact fg_Ps (Ps.app h.pos ht)
        · exact h.pos
      have sf : St' (if many % 2 = 1 then fg (found ++ twice) else found) := by
        split
        · exact fg_isSt (Ps.app h.pos ht)
        · exact h
      have pt : Ps (if 0 < many / 2 then fg (twice ++ twice) else twice) := by
        split
        · exact fg_Ps (Ps.app ht ht)
        · exact ht
      refine (soF_sim n (many / 2) (by rw [Nat.pow_succ] at hm; omega) sf pt).trans ?_
      have s1 : Sim (if many % 2 = 1 then fg (found ++ twice) else found) (found ++ Ev.rp (many % 2) twice) := by
        split
        · rename_i e; rw [e, rp_1]; exact Sim.of_fg (Ps.app h.pos ht)
        · rename_i e; rw [show many % 2 = 0 by omega, rp_0, List.append_nil]; exact Sim.refl _
      have s2 : Sim (Ev.rp (many / 2) (if 0 < many / 2 then fg (twice ++ twice) else twice)) (Ev.rp (2 * (many / 2)) twice) := by
        by_cases e : 0 < many / 2
        · rw [if_pos e, ← rp_two]
          exact Sim.rp (Sim.of_fg (Ps.app ht ht)) (Ps.app ht ht) _
        · rw [show many / 2 = 0 by omega]; exact Sim.refl _
      have s3 := Sim.app s1 s2 (Ps.app h.pos (rp_Ps ht _))
      refine s3.trans ?_
      rw [List.append_assoc, ← rp_add, show many % 2 + 2 * (many / 2) = many by omega]
      exact Sim.refl _
    · rw [if_neg h0, show many = 0 by omega, rp_0, List.append_nil]
      exact Sim.refl _
/-- so often is what is left of so many times written -/
theorem so_eq {ts : List T} {m : Nat} (h : Ps ts) (hm : m < 2 ^ 60) : so ts m = fg (rp m ts) := by
  have st : St' (so ts m) := soF_St 60 m St'.nil (fg_Ps h)
  have s := soF_sim 60 m hm St'.nil (fg_Ps h)
  rw [List.nil_append] at s
  have s2 := s.trans (Sim.rp (Sim.of_fg h) h m)
  rw [← fg_St st]
  exact s2.fg
theorem soS_short : ∀ (n many : Nat) {found twice : List T}, many < 2 ^ n → found.length + many * twice.length ≤ 200 → twice.length ≤ 200 → soS n many found twice = true
  | 0, many, found, twice, hm, _, _ => by
    have : many = 0 := by simp at hm; omega
    simp [soS, this]
  | n + 1, many, found, twice, hm, h1, h2 => by
    rw [soS]
    have a1 : found.length ≤ 200 := by omega
    simp only [Bool.and_eq_true, decide_eq_true_eq]
    refine ⟨⟨a1, h2⟩, ?_⟩
    by_cases h0 : 0 < many
    · rw [if_pos h0]
      have l1 := fg_len (found ++ twice)
      have l2 := fg_len (twice ++ twice)
      simp at l1 l2
      have em : many = 2 * (many / 2) + many % 2 := by omega
      have e1 : many * twice.length = (many / 2) * (twice.length + twice.length) + (many % 2) * twice.length := by
        conv => lhs; rw [em]
        rw [Nat.add_mul, Nat.mul_comm 2, Nat.mul_assoc, Nat.two_mul]
      have hh : many / 2 < 2 ^ n := by rw [Nat.pow_succ] at hm; omega
      by_cases hd : 0 < many / 2
      · rw [if_pos hd]
        have hle : twice.length + twice.length ≤ (many / 2) * (twice.length + twice.length) := Nat.le_mul_of_pos_left _ hd
        have hmm : (many / 2) * (fg (twice ++ twice)).length ≤ (many / 2) * (twice.length + twice.length) := Nat.mul_le_mul_left _ l2
        refine soS_short n _ hh ?_ (by omega)
        split
        · rename_i e; rw [e] at e1; omega
        · omega
      · rw [if_neg hd]
        have hz : many / 2 = 0 := by omega
        rw [hz] at e1
        refine soS_short n _ hh ?_ h2
        rw [hz, Nat.zero_mul, Nat.add_zero]
        split
        · rename_i e; rw [e] at e1; omega
        · omega
    · rw [if_neg h0]
/-- as many beats more forth -/
def ntA (x : Int) (t : T) : Int := x + if t.1 then t.2 else -t.2
theorem ntA_act : Act (fun _ : Int => True) ntA :=
  ⟨fun _ _ _ _ => trivial, fun x w a b _ _ _ => by cases w <;> simp [ntA] <;> omega, fun x w b _ _ => by cases w <;> simp [ntA] <;> omega⟩
theorem ntA_fold (ts : List T) (x : Int) : ts.foldl ntA x = x + nt ts := by
  induction ts generalizing x with
  | nil => simp
  | cons t ts ih => simp only [List.foldl_cons, ih, nt_cons, ntA]; omega
theorem nt_fg {ts : List T} (h : Ps ts) : nt (fg ts) = nt ts := by
  have := ntA_act.fg (x := 0) (ts := ts) trivial h
  rw [ntA_fold, ntA_fold] at this
  omega
theorem mul_tvs {ts : List T} {m : Nat} (h : m * ts.length ≤ 100000) (hm : m ≤ 100000) : pvMul (.lst (tvs ts)) (.int (m : Nat)) = some (.lst (tvs (rp m ts))) := by
  rw [mul_li, if_pos ⟨by omega, by omega, by simp only [Int.toNat_natCast, tvs_length]; rw [Nat.mul_comm]; exact Nat.le_of_lt (sz _ (by omega))⟩]
  congr 2
  simp only [Int.toNat_natCast, tvs, rp, List.map_flatten, List.map_replicate]
end Ev

set_option maxHeartbeats 2000000
set_option linter.all false
set_option Elab.async false
set_option maxRecDepth 100000
namespace Ev
open PySem L2
local macro_rules | `(tactic| simp_arith only [$ls,*]) => `(tactic| simp -implicitDefEqProofs only [Nat.reduceSub, Nat.reduceAdd, Int.reduceLT, Int.reduceLE, Int.reduceGT, Int.reduceGE, Int.reduceEq, Int.reducePow, Nat.reducePow, Nat.reduceMul, Int.reduceNeg, Int.reduceToNat, Int.reduceAbs, Int.reduceMod, Int.reduceDiv, Int.reduceAdd, Int.reduceSub, Int.reduceMul, Nat.reduceLT, Nat.reduceLeDiff, Nat.reduceEqDiff, decide_eq_true_eq, decide_true, decide_false, and_true, true_and, true_or, or_true, false_or, or_false, and_false, false_and, if_false, ite_true, ite_false, PV.int.injEq, PV.bl.injEq, exists_eq_left', Bool.not_true, Bool.not_false, Bool.false_eq_true, not_true_eq_false, not_false_eq_true, reduceCtorEq, Option.some.injEq, wp_ok, wp_exc, wp_bad, wo_some, wo_none, wo_if, wo_map, wo_bind, wp_of, ws_nx, ws_rt, ws_rf, ws_bk, ws_ct, ws_exc, ws_bad, wp_name, wp_c, wp_m2, wp_m1, wp_test, wp_truthN, wp_sumN, wp_lenN, wp_ixN, wp_and, wp_or, wp_notT, wp_andV, wp_orV, wp_notV, wp_if, wp_ifF, wp_args0, wp_args1, wp_tup, wp_frz, wp_callB, wp_callF, wp_cat, wp_repL, wp_chain, wp_cut, wp_part0, wp_part1, wp_call, wp_callFr, wp_callBx, wp_popN, wp_index, wp_yes, wp_seqI, wp_range, wp_revI, wp_zip, wp_zipB, wp_zipS, wp_enum, wp_zip3, wp_enZ, wp_callK, wp_callKF, wp_callBxF, wp_cps0, wp_cps1, wp_cpv, wp_cpf, ws_parG, ws_seq, ws_nil, ws_never, ws_pass, ws_ret, ws_retF, ws_retN, ws_set, ws_setF, ws_if, ws_asg, ws_par, ws_par3, ws_parF, ws_aug, ws_append, ws_setIx, ws_reverse, ws_clear, ws_extend, ws_popAt, ws_insert, wp_cmpN, wp_callBr, wpP_runP, wpF_runF, wpB_runB, wpP_ok, wpF_ok, wpP_exc, wpB_ok, ws_for', ws_forNil, wp_comp, wpC_nil, ev_g0, ev_gs, ev_gn, ev_s0, ev_ss, ev_m0, ev_m1, ev_a0, ev_a1, ev_r0, ev_rs, ev_l0, ev_l1, ev_d0, ev_d1, ev_ob, ev_om, ev_it, ev_if, ev_gl, ev_gl1, ev_dl, ev_dl1, ev_gla, ev_dla, add_ii, addI_ii, sub_ii, add_ll, add_tt, mod_ii, div_ii, pow_ii, mul_ii, mul_li, lt_ii, le_ii, gt_ii, ge_ii, neg_i, eq_ii, ne_ii, eq_bb, ne_bb, xor_f, xor_t, eq_str, ne_str, is_bb, isnot_bb, is_n, is_in, is_sn, is_bn, is_tn, is_ln, isnot_n, isnot_in, truth_b, truth_i, truth_l, truth_t, len_l, len_t, len_s, ix_l, ix_t, ix_s, seq_l, seq_t, seq_s, tuple_l, tuple_t, list_l, list_t, list_s, on1_p, abs_i, int_b, int_i, max_ii, min_ii, max1_l, min1_l, rev_l, rev_t, zip_ll, zip_tt, cat_ll, range_1, range_2, slot_0, slot_s, zip3_lll, zip3_llt, zip3_ltl, zip3_ltt, zip3_tll, zip3_tlt, zip3_ttl, zip3_ttt, zipB_ll, zipB_tt, zipB_lt, zipB_tl, zipS_ll, zipS_tt, zipS_lt, zipS_tl, omap_en, enum_l, enum_t, down_l, down_t, down_t0, setAll_0, setAll_1, atom_n, atom_b, atom_i, atom_s, permP_0, permP_1, getD_0, getD_s, isi_int_i, isi_int_b, isi_bool_i, isi_bool_b, isi_tup_t, isi_tup_l, isi_lst_l, isi_lst_t, isi_str_s, isi_str_i, isi_str_b, isi_str_n, isi_lt_l, isi_lt_t, isi_lt_i, isi_lt_b, isi_lt_s, isi_lt_n, at_0, at_1, at_2, at_3, at_last, mg_name, mg_tup, mg_lst, mg_nil, mg_cons, own0_own, startR_eq, wipe_0, wipe_1, back_0, back_1, ixN_3_0, ixN_3_1, ixN_3_2, szl, sze, wp_dict, eq_ints, eq_ww, eq_wf, sq_t, sq_f, ix_sq, len_sq, tuple_sq, list_sq, seq_sq, revI_sq, mg_sq, zipS_sq, zipS_st, zipS_ts, zipB_sq, zipB_st, zipB_ts, eq_fm, eq_fmr, iv_len, wvs_len, isring_ok, bins_ok, gates_ok, behind_ok, ahead_ok, out_ok, eq_iv, ne_iv, ix_tv0, ix_tv1, tv_mk, mg_tv, tuple_tv, in_ww, isi_tv, len_tv, eq_tvs, dix_w, lnv_0, lnv_1, sum_iv, wp_dictE, enum_sq, sides_ok, $ls,*])
/-! texts of things -/
theorem shw_int {i : Int} (h : i.natAbs < 2 ^ 100) : shwP (.int i) = true := by
  simp only [shwP, decide_eq_true_eq]
  by_cases h0 : i.natAbs = 0
  · rw [h0]; decide
  · have : i.natAbs.log2 < 100 := (Nat.log2_lt h0).mpr h
    omega
theorem shw_ps : ∀ {xs : List PV}, (∀ x ∈ xs, shwP x = true) → shwPs xs = true
  | [], _ => rfl
  | x :: xs, h => by
    simp only [shwPs, Bool.and_eq_true]
    exact ⟨h x (by simp), shw_ps fun y hy => h y (List.mem_cons_of_mem _ hy)⟩
theorem wt_ps {b : Nat} : ∀ {xs : List PV}, (∀ x ∈ xs, wtP x ≤ b) → wtPs xs ≤ (b + 2) * xs.length
  | [], _ => by simp [wtPs]
  | x :: xs, h => by
    have h1 := h x (by simp)
    have h2 := wt_ps (b := b) (xs := xs) fun y hy => h y (List.mem_cons_of_mem _ hy)
    simp only [wtPs, List.length_cons, Nat.mul_add, Nat.mul_one]
    omega
/-- of a thing that is known, not too long -/
structure Shw (b : Nat) (p : PV) : Prop where
  s : shwP p = true
  w : wtP p ≤ b
theorem Shw.mono {b c : Nat} {p : PV} (h : Shw b p) (hc : b ≤ c) : Shw c p := ⟨h.s, Nat.le_trans h.w hc⟩
theorem Shw.int {i : Int} (h : i.natAbs < 2 ^ 100) : Shw 1921 (.int i) := ⟨shw_int h, by simp [wtP]⟩
theorem Shw.non : Shw 5 .non := ⟨rfl, by simp [wtP]⟩
theorem Shw.tup {b n : Nat} {xs : List PV} (h : ∀ x ∈ xs, Shw b x) (hl : xs.length ≤ n) : Shw ((b + 2) * n + 4) (.tup xs) := by
  refine ⟨shw_ps fun x hx => (h x hx).s, ?_⟩
  have h1 := wt_ps fun x hx => (h x hx).w
  have h2 : (b + 2) * xs.length ≤ (b + 2) * n := Nat.mul_le_mul_left _ hl
  simp only [wtP]
  omega
theorem Shw.lst {b n : Nat} {xs : List PV} (h : ∀ x ∈ xs, Shw b x) (hl : xs.length ≤ n) : Shw ((b + 2) * n + 4) (.lst xs) := ⟨(Shw.tup h hl).s, (Shw.tup h hl).w⟩
theorem Shw.wy (w : Bool) : Shw 10 (.str (Ev.wy w)) := by cases w <;> exact ⟨rfl, by decide +kernel⟩
theorem Shw.fm (w : Bool) : Shw 10 (.str (Ev.fm w)) := by cases w <;> exact ⟨rfl, by decide +kernel⟩
theorem Shw.iv {l : List Int} {n : Nat} (h : ∀ x ∈ l, x.natAbs < 2 ^ 100) (hl : l.length ≤ n) : Shw (1923 * n + 4) (.tup (Ev.iv l)) := Shw.tup (fun x hx => by
  obtain ⟨y, hy, rfl⟩ := List.mem_map.mp hx
  exact Shw.int (h y hy)) (by rw [iv_len]; exact hl)
theorem Shw.wvs {l : List (Option Int)} {n : Nat} (h : ∀ v ∈ l, ∀ x, v = some x → x.natAbs < 2 ^ 100) (hl : l.length ≤ n) : Shw (1923 * n + 4) (.tup (Ev.wvs l)) := Shw.tup (fun x hx => by
  obtain ⟨y, hy, rfl⟩ := List.mem_map.mp hx
  cases y with
  | none => exact Shw.non.mono (by omega)
  | some z => exact Shw.int (h _ hy z rfl)) (by rw [wvs_len]; exact hl)
theorem Shw.lnv {L : Ln} {n : Nat} (h : ∀ x ∈ L.rooms, x.natAbs < 2 ^ 100) (hl : L.rooms.length ≤ n) (hn : 1 ≤ n) : Shw (3846 * n + 16) (Ev.lnv true true L) := by
  have := Shw.tup (b := 1923 * n + 4) (n := 2) (xs := [.str (Ev.fm L.ring), .tup (Ev.iv L.rooms)]) (by
    intro x hx
    simp at hx
    rcases hx with rfl | rfl
    · exact (Shw.fm _).mono (by omega)
    · exact Shw.iv h hl) (by simp)
  exact this.mono (by omega)
theorem Shw.tv {t : T} (h : t.2.natAbs < 2 ^ 100) : Shw 3850 (Ev.tv t) := (Shw.tup (b := 1921) (n := 2) (xs := [.str (Ev.wy t.1), .int t.2]) (by
    intro x hx
    simp at hx
    rcases hx with rfl | rfl
    · exact (Shw.wy _).mono (by omega)
    · exact Shw.int h) (by simp)).mono (by omega)
theorem repr_lst {b : Nat} {xs : List PV} (h0 : okD 12 (.lst xs) = true) (h : Shw b (.lst xs)) (hb : b ≤ 1000000) : ∃ z, pvRepr (.lst xs) = some (.str z) := by
  refine ⟨(pvD (.lst xs)).shown, ?_⟩
  simp only [pvRepr]
  rw [if_pos ⟨h0, h.s, Nat.le_trans h.w (Nat.le_of_lt (sz _ hb))⟩]
theorem repr_tup {b : Nat} {xs : List PV} (h0 : okD 12 (.tup xs) = true) (h : Shw b (.tup xs)) (hb : b ≤ 1000000) : ∃ z, pvRepr (.tup xs) = some (.str z) := by
  refine ⟨(pvD (.tup xs)).shown, ?_⟩
  simp only [pvRepr]
  rw [if_pos ⟨h0, h.s, Nat.le_trans h.w (Nat.le_of_lt (sz _ hb))⟩]
theorem okD_wvs (n : Nat) (a : List (Option Int)) : okD (n + 2) (.tup (wvs a)) = true := by
  simp only [okD, List.all_eq_true]
  intro x hx
  obtain ⟨y, _, rfl⟩ := List.mem_map.mp hx
  cases y <;> rfl
theorem okD_lnv (n : Nat) (L : Ln) : okD (n + 3) (lnv true true L) = true := by
  show okD (n + 3) (.tup [.str (fm L.ring), .tup (iv L.rooms)]) = true
  have h1 := okD_iv n L.rooms
  simp only [okD, List.all_cons, List.all_nil, fm_ok, Bool.and_true, Bool.true_and]
  exact h1
theorem mem_getD {l : List Int} {x : Int} (h : x ∈ l) : ∃ j, j < l.length ∧ x = l.getD j 0 := by
  obtain ⟨i, hi⟩ := List.mem_iff_getElem?.mp h
  have := (List.getElem?_eq_some_iff.mp hi).1
  exact ⟨i, this, by simp [List.getD, hi]⟩
theorem LOk.small {m : Nat} {L : Ln} (h : LOk m L) : ∀ x ∈ L.rooms, x.natAbs < 2 ^ 100 := fun x hx => by
  obtain ⟨j, hj, rfl⟩ := mem_getD hx
  have := h.rm j hj
  omega
theorem SOk.small {m : Nat} {L : Ln} {st : List Int} (hL : LOk m L) (h : SOk L st) : ∀ x ∈ st, x.natAbs < 2 ^ 100 := fun x hx => by
  obtain ⟨j, hj, rfl⟩ := mem_getD hx
  rw [h.1] at hj
  have := h.2 j hj
  have := hL.rm j hj
  omega
theorem WOk.small {L : Ln} {ws : List (Option Int)} (h : WOk L ws) : ∀ v ∈ ws, ∀ x, v = some x → x.natAbs < 2 ^ 100 := fun v hv x e => by
  have := h.2 v hv x e
  omega
/-- the text of a line, its widths, its contents -/
theorem repr_line {m : Nat} {L : Ln} {ws : List (Option Int)} {st : List Int} (hm : m ≤ 9) (hL : LOk m L) (hW : WOk L ws) (hS : SOk L st) : ∃ z, pvRepr (.lst [lnv true true L, .tup (wvs ws), .tup (iv st)]) = some (.str z) := by
  have hle := hL.le
  have hng : L.ng ≤ 10 := by unfold Ln.ng; split <;> omega
  refine repr_lst (b := (38476 + 2) * 3 + 4) ?_ (Shw.lst (b := 38476) (n := 3) (fun x hx => ?_) (by simp)) (by omega)
  · have h1 := okD_lnv 8 L
    have h2 := okD_wvs 9 ws
    have h3 := okD_iv 9 st
    show ([lnv true true L, .tup (wvs ws), .tup (iv st)].all (okD 11)) = true
    simp only [List.all_cons, List.all_nil, Bool.and_true, Bool.and_eq_true]
    exact ⟨h1, h2, h3⟩
  · simp at hx
    rcases hx with rfl | rfl | rfl
    · exact (Shw.lnv (n := 10) hL.small (by omega) (by omega)).mono (by omega)
    · exact (Shw.wvs (n := 10) hW.small (by rw [hW.1]; exact hng)).mono (by omega)
    · exact (Shw.iv (n := 10) (SOk.small hL hS) (by rw [hS.1]; omega)).mono (by omega)
theorem repr_tvs {ts : List T} (hl : ts.length ≤ 100) (h : ∀ t ∈ ts, t.2.natAbs < 2 ^ 100) : ∃ z, pvRepr (.lst (tvs ts)) = some (.str z) := by
  refine repr_lst (b := (3850 + 2) * 100 + 4) (okD_tvs 9 ts) (Shw.lst (b := 3850) (n := 100) (fun x hx => ?_) (by rw [tvs_length]; exact hl)) (by omega)
  obtain ⟨t, ht, rfl⟩ := List.mem_map.mp hx
  exact Shw.tv (h t ht)
/-! lists for tuples -/
section
variable {F : Nat → FP}
/-- what turns tuples to lists -/
structure Lists (F : Nat → FP) : Prop where
  i : ∀ d i, F (d + 1) [.int i] = .ok (.int i)
  s : ∀ d x, F (d + 1) [.str x] = .ok (.str x)
  n : ∀ d, F (d + 1) [.non] = .ok .non
  q : ∀ d t (xs : List PV) (g : PV → PV), xs.length ≤ 1000000 → (∀ x ∈ xs, F d [x] = .ok (g x)) → F (d + 1) [sq t xs] = .ok (.lst (xs.map g))
end
theorem isi_lt_sq {t : Bool} {xs : List PV} : pvIsI [sq t xs, .tup [.ty "list", .ty "tuple"]] = some (.bl true) := by cases t <;> rfl
theorem lists_a : Lists f__law_lists := by
  refine ⟨fun d i => ?_, fun d i => ?_, fun d => ?_, fun d t xs g hl h => ?_⟩
  · rw [wpP_eq, f__law_lists]; simp_arith only [c__law_lists]
  · rw [wpP_eq, f__law_lists]; simp_arith only [c__law_lists]
  · rw [wpP_eq, f__law_lists]; simp_arith only [c__law_lists]
  · rw [wpP_eq, f__law_lists]
    simp_arith only [c__law_lists, isi_lt_sq]
    refine wpC_map g (Nat.le_of_lt (sz _ hl)) (fun p hp => ?_) ?_
    · simp_arith only [h p hp]
    · simp
theorem lists_b : Lists f__law_lists_k01 := by
  refine ⟨fun d i => ?_, fun d i => ?_, fun d => ?_, fun d t xs g hl h => ?_⟩
  · rw [wpP_eq, f__law_lists_k01]; simp_arith only [c__law_lists_k01]
  · rw [wpP_eq, f__law_lists_k01]; simp_arith only [c__law_lists_k01]
  · rw [wpP_eq, f__law_lists_k01]; simp_arith only [c__law_lists_k01]
  · rw [wpP_eq, f__law_lists_k01]
    simp_arith only [c__law_lists_k01, isi_lt_sq]
    refine wpC_map g (Nat.le_of_lt (sz _ hl)) (fun p hp => ?_) ?_
    · simp_arith only [h p hp]
    · simp
theorem Lists.iv {F : Nat → FP} (h : Lists F) (d : Nat) {t : Bool} {l : List Int} (hl : l.length ≤ 1000) : F (d + 2) [sq t (Ev.iv l)] = .ok (.lst (Ev.iv l)) := by
  have := h.q (d + 1) t (Ev.iv l) id (by rw [iv_len]; omega) (fun x hx => by
    obtain ⟨y, _, rfl⟩ := List.mem_map.mp hx
    exact h.i d y)
  simpa using this
theorem Lists.wvs {F : Nat → FP} (h : Lists F) (d : Nat) {t : Bool} {l : List (Option Int)} (hl : l.length ≤ 1000) : F (d + 2) [sq t (Ev.wvs l)] = .ok (.lst (Ev.wvs l)) := by
  have := h.q (d + 1) t (Ev.wvs l) id (by rw [wvs_len]; omega) (fun x hx => by
    obtain ⟨y, _, rfl⟩ := List.mem_map.mp hx
    cases y with
    | none => exact h.n d
    | some y => exact h.i d y)
  simpa using this
theorem Lists.lnv {F : Nat → FP} (h : Lists F) (d : Nat) {t t' : Bool} {L : Ln} (hl : L.rooms.length ≤ 1000) : F (d + 3) [Ev.lnv t t' L] = .ok (Ev.lnv false false L) := by
  have e := h.iv d (t := t') (l := L.rooms) hl
  have := h.q (d + 2) t [.str (Ev.fm L.ring), sq t' (Ev.iv L.rooms)] (fun p => match p with | .str x => .str x | _ => .lst (Ev.iv L.rooms)) (by simp) (fun x hx => by
    simp at hx
    rcases hx with rfl | rfl
    · exact h.s _ _
    · rw [e]; cases t' <;> rfl)
  rw [show Ev.lnv t t' L = sq t [.str (Ev.fm L.ring), sq t' (Ev.iv L.rooms)] from rfl, this]
  cases t' <;> rfl
def tvl (t : T) : PV := .lst [.str (wy t.1), .int t.2]
theorem Lists.tvs {F : Nat → FP} (h : Lists F) (d : Nat) {ts : List T} (hl : ts.length ≤ 1000) : F (d + 3) [.lst (Ev.tvs ts)] = .ok (.lst (ts.map tvl)) := by
  have e : ∀ t : T, F (d + 2) [tv t] = .ok (tvl t) := fun t => by
    have := h.q (d + 1) true [.str (wy t.1), .int t.2] id (by simp) (fun x hx => by
      simp at hx
      rcases hx with rfl | rfl
      · exact h.s _ _
      · exact h.i _ _)
    rw [List.map_id] at this
    exact this
  have := h.q (d + 2) false (Ev.tvs ts) (fun p => match p with | .tup xs => .lst xs | q => q) (by rw [tvs_length]; omega) (fun x hx => by
    obtain ⟨t, _, rfl⟩ := List.mem_map.mp hx
    exact e t)
  rw [show PV.lst (Ev.tvs ts) = sq false (Ev.tvs ts) from rfl, this]
  simp [Ev.tvs, tvl, tv]
/-! lines or not -/
section
variable {t t' t1 t2 : Bool} {L : Ln} {ws : List (Option Int)} {st : List Int}
theorem bare_ok (hn : 0 < L.rooms.length) (h1 : L.rooms.length ≤ 900) : f_bare [lnv t t' L] = .ok (.tup (iv (List.replicate L.rooms.length 0))) := by
  rw [wpP_eq]; simp_arith only [f_bare, c_bare, mul_zeros1 hn (show L.rooms.length ≤ 1000 by omega)]
theorem full_ok : f_full [lnv t t' L] = .ok (.tup (iv L.rooms)) := by
  rw [wpP_eq]; simp_arith only [f_full, c_full]
theorem any_false' {zs : List PV} (h : ∀ z ∈ zs, z = .bl false) : pvAny (.lst zs) = some (.bl false) := by
  have e : zs = (List.replicate zs.length false).map fun b => PV.bl b := by
    simp only [List.map_replicate]
    exact List.eq_replicate_of_mem h
  rw [e]
  show (blsP _).map _ = _
  rw [bls_map (fun b => b)]
  simp
theorem in_fm (r : Bool) : pvNotIn (.str (fm r)) (.tup [.str "row", .str "ring"]) = some (.bl false) := by cases r <;> rfl
theorem isline_ok {m : Nat} (hL : LOk m L) (hm : m ≤ 900) : f_is_line [lnv true true L] = .ok (.bl true) := by
  have hle := hL.le
  have hn := hL.n
  rw [wpP_eq, show lnv true true L = .tup [.str (fm L.ring), .tup (iv L.rooms)] from rfl]
  simp_arith only [f_is_line, c_is_line, in_fm, nums_ok (l := L.rooms) (by omega)]
  refine wpC_list (l := L.rooms) (f := PV.int) (fun _ => .bl false) (by omega) (fun a ha => ?_) ?_
  · obtain ⟨j, hj, rfl⟩ := mem_getD ha
    have := hL.rm j hj
    have c : (L.rooms.getD j 0 < 1) = False := by simp only [eq_iff_iff, iff_false]; omega
    simp_arith only [c]
  · have ha := any_false' (zs := L.rooms.map fun _ => PV.bl false) (by simp)
    simp_arith only [ha]
    cases h : L.ring with
    | true =>
      have := hL.rg h
      simp only [Bool.not_true, Bool.false_eq_true, if_false, decide_eq_true_eq]
      omega
    | false =>
      simp only [Bool.not_false, if_true]
      omega
theorem iswidths_ok (hn : L.rooms.length ≤ 900) (hw : ws.length = L.ng) (h : WNn ws) : f_is_widths [lnv t t' L, .tup (wvs ws)] = .ok (.bl true) := by
  have hng := ng_le L hn
  rw [wpP_eq]
  simp_arith only [f_is_widths, c_is_widths, hw]
  refine wpC_list (l := ws) (f := wv) (fun _ => .bl true) (by omega) (fun a ha => ?_) ?_
  · have e : f_is_width [wv a] = .ok (.bl true) := by
      rw [wpP_eq]
      cases a with
      | none => simp_arith only [f_is_width, c_is_width, wv]
      | some v =>
        have c : (0 ≤ v) = True := eq_true (h _ ha v rfl)
        simp_arith only [f_is_width, c_is_width, wv, isnum_ok, c]
    simp_arith only [e]
  · have ha := all_true (zs := ws.map fun _ => PV.bl true) (by simp)
    simp_arith only [ha]
end
end Ev

set_option maxHeartbeats 2000000
set_option linter.all false
set_option Elab.async false
set_option maxRecDepth 100000
namespace Ev
open PySem L2
local macro_rules | `(tactic| simp_arith only [$ls,*]) => `(tactic| simp -implicitDefEqProofs only [Nat.reduceSub, Nat.reduceAdd, Int.reduceLT, Int.reduceLE, Int.reduceGT, Int.reduceGE, Int.reduceEq, Int.reducePow, Nat.reducePow, Nat.reduceMul, Int.reduceNeg, Int.reduceToNat, Int.reduceAbs, Int.reduceMod, Int.reduceDiv, Int.reduceAdd, Int.reduceSub, Int.reduceMul, Nat.reduceLT, Nat.reduceLeDiff, Nat.reduceEqDiff, decide_eq_true_eq, decide_true, decide_false, and_true, true_and, true_or, or_true, false_or, or_false, and_false, false_and, if_false, ite_true, ite_false, PV.int.injEq, PV.bl.injEq, exists_eq_left', Bool.not_true, Bool.not_false, Bool.false_eq_true, not_true_eq_false, not_false_eq_true, reduceCtorEq, Option.some.injEq, wp_ok, wp_exc, wp_bad, wo_some, wo_none, wo_if, wo_map, wo_bind, wp_of, ws_nx, ws_rt, ws_rf, ws_bk, ws_ct, ws_exc, ws_bad, wp_name, wp_c, wp_m2, wp_m1, wp_test, wp_truthN, wp_sumN, wp_lenN, wp_ixN, wp_and, wp_or, wp_notT, wp_andV, wp_orV, wp_notV, wp_if, wp_ifF, wp_args0, wp_args1, wp_tup, wp_frz, wp_callB, wp_callF, wp_cat, wp_repL, wp_chain, wp_cut, wp_part0, wp_part1, wp_call, wp_callFr, wp_callBx, wp_popN, wp_index, wp_yes, wp_seqI, wp_range, wp_revI, wp_zip, wp_zipB, wp_zipS, wp_enum, wp_zip3, wp_enZ, wp_callK, wp_callKF, wp_callBxF, wp_cps0, wp_cps1, wp_cpv, wp_cpf, ws_parG, ws_seq, ws_nil, ws_never, ws_pass, ws_ret, ws_retF, ws_retN, ws_set, ws_setF, ws_if, ws_asg, ws_par, ws_par3, ws_parF, ws_aug, ws_append, ws_setIx, ws_reverse, ws_clear, ws_extend, ws_popAt, ws_insert, wp_cmpN, wp_callBr, wpP_runP, wpF_runF, wpB_runB, wpP_ok, wpF_ok, wpP_exc, wpB_ok, ws_for', ws_forNil, wp_comp, wpC_nil, ev_g0, ev_gs, ev_gn, ev_s0, ev_ss, ev_m0, ev_m1, ev_a0, ev_a1, ev_r0, ev_rs, ev_l0, ev_l1, ev_d0, ev_d1, ev_ob, ev_om, ev_it, ev_if, ev_gl, ev_gl1, ev_dl, ev_dl1, ev_gla, ev_dla, add_ii, addI_ii, sub_ii, add_ll, add_tt, mod_ii, div_ii, pow_ii, mul_ii, mul_li, lt_ii, le_ii, gt_ii, ge_ii, neg_i, eq_ii, ne_ii, eq_bb, ne_bb, xor_f, xor_t, eq_str, ne_str, is_bb, isnot_bb, is_n, is_in, is_sn, is_bn, is_tn, is_ln, isnot_n, isnot_in, truth_b, truth_i, truth_l, truth_t, len_l, len_t, len_s, ix_l, ix_t, ix_s, seq_l, seq_t, seq_s, tuple_l, tuple_t, list_l, list_t, list_s, on1_p, abs_i, int_b, int_i, max_ii, min_ii, max1_l, min1_l, rev_l, rev_t, zip_ll, zip_tt, cat_ll, range_1, range_2, slot_0, slot_s, zip3_lll, zip3_llt, zip3_ltl, zip3_ltt, zip3_tll, zip3_tlt, zip3_ttl, zip3_ttt, zipB_ll, zipB_tt, zipB_lt, zipB_tl, zipS_ll, zipS_tt, zipS_lt, zipS_tl, omap_en, enum_l, enum_t, down_l, down_t, down_t0, setAll_0, setAll_1, atom_n, atom_b, atom_i, atom_s, permP_0, permP_1, getD_0, getD_s, isi_int_i, isi_int_b, isi_bool_i, isi_bool_b, isi_tup_t, isi_tup_l, isi_lst_l, isi_lst_t, isi_str_s, isi_str_i, isi_str_b, isi_str_n, isi_lt_l, isi_lt_t, isi_lt_i, isi_lt_b, isi_lt_s, isi_lt_n, at_0, at_1, at_2, at_3, at_last, mg_name, mg_tup, mg_lst, mg_nil, mg_cons, own0_own, startR_eq, wipe_0, wipe_1, back_0, back_1, ixN_3_0, ixN_3_1, ixN_3_2, szl, sze, wp_dict, eq_ints, eq_ww, eq_wf, sq_t, sq_f, ix_sq, len_sq, tuple_sq, list_sq, seq_sq, revI_sq, mg_sq, zipS_sq, zipS_st, zipS_ts, zipB_sq, zipB_st, zipB_ts, eq_fm, eq_fmr, iv_len, wvs_len, isring_ok, bins_ok, gates_ok, behind_ok, ahead_ok, out_ok, eq_iv, ne_iv, ix_tv0, ix_tv1, tv_mk, mg_tv, tuple_tv, in_ww, isi_tv, len_tv, eq_tvs, dix_w, lnv_0, lnv_1, sum_iv, wp_dictE, enum_sq, sides_ok, $ls,*])
/-! two standings beside each other -/
def zt (a b : List Int) (j : Nat) : Int := (a.take j).sum - (b.take j).sum
def bw (L : Ln) (a b : List Int) : List Int := (List.range L.ng).map (zt a b)
theorem zt_0 (a b : List Int) : zt a b 0 = 0 := by simp [zt]
theorem zt_succ {a b : List Int} {j : Nat} (ha : j < a.length) (hb : j < b.length) : zt a b (j + 1) = zt a b j + a.getD j 0 - b.getD j 0 := by
  unfold zt
  rw [take_snoc (List.getElem?_eq_getElem ha), take_snoc (List.getElem?_eq_getElem hb), List.sum_append, List.sum_append]
  simp [List.getD, ha, hb]
  omega
@[simp] theorem bw_len (L : Ln) (a b : List Int) : (bw L a b).length = L.ng := by simp [bw]
theorem bw_getD {L : Ln} {a b : List Int} {j : Nat} (h : j < L.ng) : (bw L a b).getD j 0 = zt a b j := by unfold bw; rw [getD_range h]
/-- two of a ring hold as many -/
structure Tw (L : Ln) (x y : List Int) : Prop where
  a : x.length = L.rooms.length
  b : y.length = L.rooms.length
  s : L.ring = true → x.sum = y.sum
theorem Tw.symm {L : Ln} {a b : List Int} (h : Tw L a b) : Tw L b a := ⟨h.b, h.a, fun r => (h.s r).symm⟩
theorem Tw.refl {L : Ln} {a : List Int} (h : a.length = L.rooms.length) : Tw L a a := ⟨h, h, fun _ => rfl⟩
theorem Tw.trans {L : Ln} {a b c : List Int} (h : Tw L a b) (k : Tw L b c) : Tw L a c := ⟨h.a, k.b, fun r => (h.s r).trans (k.s r)⟩
section
variable {t t' t1 t2 : Bool} {L : Ln} {a b : List Int}
theorem ng_pre (L : Ln) : L.ng ≤ L.rooms.length + 1 := by unfold Ln.ng; split <;> omega
theorem ne_ii' {x y : Int} (h : x = y) : pvNe (.int x) (.int y) = some (.bl false) := by subst h; simp
theorem cutF {xs : List PV} {k : Nat} : pvCut (.lst xs) none (some (k : Int)) = some (.lst (xs.take k)) := by
  show some (PV.lst (cutP xs none (some (k : Int)))) = _
  congr 2
  unfold cutP
  rw [show HT.sIx xs.length 0 none = 0 from rfl, show HT.sIx xs.length xs.length (some (k : Int)) = min k xs.length from HT.sIx_nat _ _ k]
  simp only [List.drop_zero, Nat.sub_zero]
  by_cases h : k ≤ xs.length
  · rw [Nat.min_eq_left h]
  · rw [Nat.min_eq_right (by omega), List.take_of_length_le (Nat.le_refl _), List.take_of_length_le (by omega)]
abbrev zl (a b : List Int) (i : Nat) : List PV := (List.range (i + 1)).map fun j => PV.int (zt a b j)
theorem zl_last {i : Nat} : atI (zl a b i) (-1) = some (.int (zt a b i)) := by
  unfold zl
  rw [List.range_succ, List.map_append]
  exact at_last
theorem zl_succ {i : Nat} (ha : i < a.length) (hb : i < b.length) : zl a b i ++ [.int (zt a b i + a.getD i 0 - b.getD i 0)] = zl a b (i + 1) := by
  unfold zl
  rw [List.range_succ (n := i + 1), List.map_append, ← zt_succ ha hb]
  rfl
theorem zl_cut {n m : Nat} (h : m ≤ n + 1) : (zl a b n).take m = iv ((List.range m).map (zt a b)) := by
  unfold zl iv
  rw [← List.map_take, List.map_map, List.take_range, Nat.min_eq_left h]
  rfl
theorem zip_get {i : Nat} {p : PV} (h : (List.zipWith pairP (iv a) (iv b))[i]? = some p) : i < a.length ∧ i < b.length ∧ p = pairP (.int (a.getD i 0)) (.int (b.getD i 0)) := by
  rw [List.getElem?_zipWith] at h
  by_cases ha : i < a.length
  · by_cases hb : i < b.length
    · rw [iv_at ha, iv_at hb] at h
      cases h
      exact ⟨ha, hb, rfl⟩
    · rw [iv_at ha, List.getElem?_eq_none (l := iv b) (by rw [iv_len]; omega)] at h; cases h
  · rw [List.getElem?_eq_none (l := iv a) (by rw [iv_len]; omega)] at h; cases h
theorem sum_sqi {t : Bool} {l : List Int} : pvSum (sq t (iv l)) = some (.int l.sum) := by
  cases t
  · show (intsP (l.map .int)).map _ = _
    rw [intsP_map]; rfl
  · exact sum_iv l
theorem between_ok (hn : L.rooms.length ≤ 900) (h : Tw L a b) : f_between [lnv t t' L, sq t1 (iv a), sq t2 (iv b)] = .ok (.tup (iv (bw L a b))) := by
  have ha := h.a
  have hb := h.b
  have hng := ng_pre L
  rw [wpP_eq]
  have rest : WpS { nx := fun ρ1 => WpS { nx := fun _ => PV.non = .tup (iv (bw L a b)), rt := fun p _ => p = .tup (iv (bw L a b)) } (mRet (mCallB (on1 pvTuple) [mCut (mName 3) none (some (mCall f_gates [mName 0]))]) ρ1), rt := fun p _ => p = .tup (iv (bw L a b)) }
      (forL (mgTup (mgCons (mgName 4) (mgCons (mgName 5) (mgNil)))) (mAppend 3 (m2 pvSub (m2 pvAdd (mIxN 3 (m1 pvNeg (mC (.int 1)))) (mName 4)) (mName 5))) (List.zipWith pairP (iv a) (iv b))
      [.val (lnv t t' L), .val (sq t1 (iv a)), .val (sq t2 (iv b)), .own [.int 0], .emp, .emp]) := by
    refine ws_forInv (fun i ρ => ∃ x4 x5, ρ = [.val (lnv t t' L), .val (sq t1 (iv a)), .val (sq t2 (iv b)), .own (zl a b i), x4, x5]) ⟨.emp, .emp, by simp [zl, zt_0, List.range_succ]⟩ ?_ ?_
    · rintro i p ρ e ⟨x4, x5, rfl⟩
      obtain ⟨h1, h2, rfl⟩ := zip_get e
      have al := zl_last (a := a) (b := b) (i := i)
      have sc := zl_succ h1 h2
      have z : ((zl a b i).length < sizeLine) = True := szl (by simp; omega)
      generalize zl a b i = l at al sc z ⊢
      simp_arith only [sum_sqi, pairP, al, z, sc]
      exact ⟨_, _, rfl⟩
    · rintro ρ ⟨x4, x5, rfl⟩
      have el : (List.zipWith pairP (iv a) (iv b)).length = L.rooms.length := by simp [iv, ha, hb]
      rw [el]
      have cu := cutF (xs := zl a b L.rooms.length) (k := L.ng)
      rw [zl_cut hng] at cu
      generalize zl a b L.rooms.length = l at cu ⊢
      simp_arith only [sum_sqi, cu]
      rfl
  simp_arith only [sum_sqi, f_between, c_between]
  cases hr : L.ring with
  | false =>
    simp only [Bool.false_eq_true, if_false]
    rw [if_pos (ha.trans hb.symm)]
    exact rest
  | true =>
    have := h.s hr
    simp only [if_true]
    simp_arith only [sum_sqi, this]
    rw [if_pos (ha.trans hb.symm)]
    exact rest
theorem tied_ok (hn : L.rooms.length ≤ 900) (ha : a.length = L.rooms.length) (hb : b.length = L.rooms.length) : f__law_tied [lnv true true L, .tup (iv a), .tup (iv b)] = .ok (.tup (iv (bw L a b))) := by
  have hng := ng_pre L
  rw [wpP_eq]
  simp_arith only [sum_sqi, f__law_tied, c__law_tied]
  refine ws_forInv (fun i ρ => ∃ x4 x5, ρ = [.val (lnv true true L), .val (.tup (iv a)), .val (.tup (iv b)), .own (zl a b i), x4, x5]) ⟨.emp, .emp, by simp [zl, zt_0, List.range_succ]⟩ ?_ ?_
  · rintro i p ρ e ⟨x4, x5, rfl⟩
    obtain ⟨h1, h2, rfl⟩ := zip_get e
    have al := zl_last (a := a) (b := b) (i := i)
    have sc := zl_succ h1 h2
    have z : ((zl a b i).length < sizeLine) = True := szl (by simp; omega)
    generalize zl a b i = l at al sc z ⊢
    simp_arith only [sum_sqi, pairP, al, z, sc]
    exact ⟨_, _, rfl⟩
  · rintro ρ ⟨x4, x5, rfl⟩
    have el : (List.zipWith pairP (iv a) (iv b)).length = L.rooms.length := by simp [iv, ha, hb]
    rw [el]
    have cu := cutF (xs := zl a b L.rooms.length) (k := L.ng)
    rw [zl_cut hng] at cu
    have en : ((a.length : Int) + if (!L.ring) = true then 1 else 0) = (L.ng : Nat) := by rw [ha]; exact len_ng L
    generalize zl a b L.rooms.length = l at cu ⊢
    simp_arith only [sum_sqi, en, cu]
    rfl
end
/-! the greatest, the least -/
def maxO : List Int → Int
  | [] => 0
  | x :: r => r.foldl max x
theorem max1_t {l : List Int} (h : l ≠ []) : pvMax1 [.tup (iv l)] = some (.int (maxO l)) := by
  cases l with
  | nil => exact absurd rfl h
  | cons a l =>
    show ((intsP ((a :: l).map .int)).bind fun ns => (maxL ns).map PV.int) = _
    rw [intsP_map]; rfl
theorem min1_t {l : List Int} (h : l ≠ []) : pvMin1 [.tup (iv l)] = some (.int (minO l)) := by
  cases l with
  | nil => exact absurd rfl h
  | cons a l =>
    show ((intsP ((a :: l).map .int)).bind fun ns => (minL ns).map PV.int) = _
    rw [intsP_map]; rfl
theorem maxO_spec {l : List Int} (h : l ≠ []) : maxO l ∈ l ∧ ∀ y ∈ l, y ≤ maxO l := by
  cases l with
  | nil => exact absurd rfl h
  | cons a l => exact foldl_max_spec l a
theorem minO_spec {l : List Int} (h : l ≠ []) : minO l ∈ l ∧ ∀ y ∈ l, minO l ≤ y := by
  cases l with
  | nil => exact absurd rfl h
  | cons a l => exact foldl_min_spec l a
def ap (L : Ln) (a b : List Int) : Int := maxO (bw L a b) - minO (bw L a b)
def fu (L : Ln) (a b : List Int) : Bool := decide (0 ≤ minO (bw L a b))
section
variable {t t' t1 t2 : Bool} {L : Ln} {a b c : List Int}
theorem bw_ne (h : 0 < L.ng) : bw L a b ≠ [] := by intro z; have := congrArg List.length z; simp at this; omega
theorem apart_ok (h0 : 0 < L.ng) (hn : L.rooms.length ≤ 900) (h : Tw L a b) : f_apart [lnv t t' L, sq t1 (iv a), sq t2 (iv b)] = .ok (.int (ap L a b)) := by
  rw [wpP_eq]
  simp_arith only [sum_sqi, f_apart, c_apart, between_ok (t := t) (t' := t') (t1 := t1) (t2 := t2) hn h, max1_t (bw_ne (a := a) (b := b) h0), min1_t (bw_ne (a := a) (b := b) h0)]
  rfl
theorem all_dec {l : List Int} (h : l ≠ []) : (l.map fun x => decide (0 ≤ x)).all id = decide (0 ≤ minO l) := by
  obtain ⟨h1, h2⟩ := minO_spec h
  rw [Bool.eq_iff_iff]
  simp only [List.all_map, List.all_eq_true, Function.comp, id, decide_eq_true_eq]
  exact ⟨fun k => k _ h1, fun k y hy => Int.le_trans k (h2 y hy)⟩
theorem further_ok (h0 : 0 < L.ng) (hn : L.rooms.length ≤ 900) (h : Tw L a b) : f_is_further [lnv t t' L, sq t1 (iv a), sq t2 (iv b)] = .ok (.bl (fu L a b)) := by
  have hng := ng_pre L
  rw [wpP_eq]
  simp_arith only [sum_sqi, f_is_further, c_is_further, between_ok (t := t) (t' := t') (t1 := t1) (t2 := t2) hn h]
  refine wpC_list (l := bw L a b) (f := PV.int) (fun x => .bl (decide (0 ≤ x))) (by simp; omega) (fun x _ => ?_) ?_
  · simp_arith only [sum_sqi]
  · have ha : pvAll (.lst ((bw L a b).map fun x => PV.bl (decide (0 ≤ x)))) = some (.bl (fu L a b)) := by
      show (blsP _).map _ = _
      rw [bls_map (fun x : Int => decide (0 ≤ x))]
      simp only [Option.map_some, Option.some.injEq, PV.bl.injEq]
      exact all_dec (bw_ne h0)
    simp_arith only [sum_sqi, ha]
/-! what holds of them -/
theorem bw_mem {x : Int} : x ∈ bw L a b ↔ ∃ j, j < L.ng ∧ x = zt a b j := by
  unfold bw
  simp only [List.mem_map, List.mem_range]
  exact ⟨fun ⟨j, h, e⟩ => ⟨j, h, e.symm⟩, fun ⟨j, h, e⟩ => ⟨j, h, e.symm⟩⟩
theorem zt_neg (j : Nat) : zt b a j = -zt a b j := by unfold zt; omega
theorem zt_add (j : Nat) : zt a c j = zt a b j + zt b c j := by unfold zt; omega
/-- least, greatest: where -/
structure Ext (L : Ln) (a b : List Int) (lo hi : Int) : Prop where
  l : ∃ j, j < L.ng ∧ lo = zt a b j
  h : ∃ j, j < L.ng ∧ hi = zt a b j
  ll : ∀ j, j < L.ng → lo ≤ zt a b j
  hh : ∀ j, j < L.ng → zt a b j ≤ hi
theorem ext_of (h0 : 0 < L.ng) : Ext L a b (minO (bw L a b)) (maxO (bw L a b)) := by
  obtain ⟨h1, h2⟩ := minO_spec (bw_ne (a := a) (b := b) h0)
  obtain ⟨h3, h4⟩ := maxO_spec (bw_ne (a := a) (b := b) h0)
  exact ⟨bw_mem.mp h1, bw_mem.mp h3, fun j hj => h2 _ (bw_mem.mpr ⟨j, hj, rfl⟩), fun j hj => h4 _ (bw_mem.mpr ⟨j, hj, rfl⟩)⟩
theorem Ext.le0 {lo hi : Int} (h : Ext L a b lo hi) (h0 : 0 < L.ng) : lo ≤ 0 ∧ 0 ≤ hi := by
  have := h.ll 0 h0
  have := h.hh 0 h0
  rw [zt_0] at *
  omega
theorem swap_ext (h0 : 0 < L.ng) : minO (bw L b a) = -maxO (bw L a b) ∧ maxO (bw L b a) = -minO (bw L a b) := by
  have e1 := ext_of (a := a) (b := b) h0
  have e2 := ext_of (a := b) (b := a) h0
  obtain ⟨j1, h1, q1⟩ := e1.l
  obtain ⟨j2, h2, q2⟩ := e1.h
  obtain ⟨j3, h3, q3⟩ := e2.l
  obtain ⟨j4, h4, q4⟩ := e2.h
  have a1 := e2.ll j2 h2
  have a2 := e2.hh j1 h1
  have a3 := e1.hh j3 h3
  have a4 := e1.ll j4 h4
  rw [zt_neg (a := a) (b := b)] at a1 a2 q3 q4
  omega
theorem ap_comm (h0 : 0 < L.ng) : ap L b a = ap L a b := by
  obtain ⟨h1, h2⟩ := swap_ext (a := a) (b := b) h0
  unfold ap; omega
theorem zt_self (j : Nat) : zt a a j = 0 := by unfold zt; omega
theorem self_ext (h0 : 0 < L.ng) : minO (bw L a a) = 0 ∧ maxO (bw L a a) = 0 := by
  have e := ext_of (a := a) (b := a) h0
  obtain ⟨j1, _, q1⟩ := e.l
  obtain ⟨j2, _, q2⟩ := e.h
  rw [zt_self] at q1 q2
  exact ⟨q1, q2⟩
theorem ap_self (h0 : 0 < L.ng) : ap L a a = 0 := by obtain ⟨h1, h2⟩ := self_ext (a := a) h0; unfold ap; omega
theorem fu_self (h0 : 0 < L.ng) : fu L a a = true := by obtain ⟨h1, h2⟩ := self_ext (a := a) h0; unfold fu; rw [h1]; rfl
theorem fu_swap (h0 : 0 < L.ng) : fu L b a = decide (maxO (bw L a b) = 0) := by
  obtain ⟨h1, h2⟩ := swap_ext (a := a) (b := b) h0
  have e := (ext_of (a := a) (b := b) h0).le0 h0
  unfold fu
  rw [h1]
  congr 1
  simp only [eq_iff_iff]
  omega
theorem eq_of_zt (hw : Tw L a b) (h0 : 0 < L.rooms.length) (h : ∀ j, j < L.ng → zt a b j = 0) : a = b := by
  refine ext_getD (d := 0) (by rw [hw.a, hw.b]) fun j hj => ?_
  have ha := hw.a
  have hb := hw.b
  rw [ha] at hj
  have z0 : zt a b j = 0 := h j (Nat.lt_of_lt_of_le hj ng_ge)
  have z1 : zt a b (j + 1) = 0 := by
    by_cases c : j + 1 < L.ng
    · exact h _ c
    · -- a ring's last
      have hr : L.ring = true := by
        cases hr : L.ring with
        | true => rfl
        | false => simp [Ln.ng, hr] at c; omega
      have hl : j + 1 = L.rooms.length := by simp [Ln.ng, hr] at c; omega
      unfold zt
      rw [hl, ← ha, List.take_length, ha, ← hb, List.take_length]
      have := hw.s hr
      omega
  have := zt_succ (a := a) (b := b) (j := j) (by omega) (by omega)
  omega
theorem ap_zero (hw : Tw L a b) (h0 : 0 < L.rooms.length) : ap L a b = 0 ↔ a = b := by
  have hg : 0 < L.ng := Nat.lt_of_lt_of_le h0 ng_ge
  constructor
  · intro h
    have e := ext_of (a := a) (b := b) hg
    have l := e.le0 hg
    unfold ap at h
    exact eq_of_zt hw h0 fun j hj => by have := e.ll j hj; have := e.hh j hj; omega
  · intro h; subst h; exact ap_self hg
theorem fu_both (hw : Tw L a b) (h0 : 0 < L.rooms.length) : (fu L a b && fu L b a) = true ↔ a = b := by
  have hg : 0 < L.ng := Nat.lt_of_lt_of_le h0 ng_ge
  constructor
  · intro h
    rw [Bool.and_eq_true, fu_swap (a := a) (b := b) hg] at h
    have e := ext_of (a := a) (b := b) hg
    have l := e.le0 hg
    unfold fu at h
    simp only [decide_eq_true_eq] at h
    exact eq_of_zt hw h0 fun j hj => by have := e.ll j hj; have := e.hh j hj; omega
  · intro h; subst h; rw [fu_self hg]; rfl
theorem ap_tri (h0 : 0 < L.ng) : ap L a c ≤ ap L a b + ap L b c := by
  have e1 := ext_of (a := a) (b := b) h0
  have e2 := ext_of (a := b) (b := c) h0
  have e3 := ext_of (a := a) (b := c) h0
  obtain ⟨j1, h1, q1⟩ := e3.l
  obtain ⟨j2, h2, q2⟩ := e3.h
  rw [zt_add (b := b)] at q1 q2
  have := e1.ll j1 h1
  have := e2.ll j1 h1
  have := e1.hh j2 h2
  have := e2.hh j2 h2
  unfold ap
  omega
theorem fu_trans (h0 : 0 < L.ng) (h : fu L a b = true) (k : fu L b c = true) : fu L a c = true := by
  unfold fu at *
  simp only [decide_eq_true_eq] at *
  have e1 := ext_of (a := a) (b := b) h0
  have e2 := ext_of (a := b) (b := c) h0
  have e3 := ext_of (a := a) (b := c) h0
  obtain ⟨j1, h1, q1⟩ := e3.l
  rw [zt_add (b := b)] at q1
  have := e1.ll j1 h1
  have := e2.ll j1 h1
  omega
end
/-! two drawn standings -/
theorem sum_set : ∀ (l : List Int) (i : Nat) (v : Int), i < l.length → (l.set i v).sum = l.sum - l.getD i 0 + v
  | [], i, v, h => by simp at h
  | x :: l, 0, v, _ => by simp; omega
  | x :: l, i + 1, v, h => by
    have := sum_set l i v (by simpa using h)
    simp at this ⊢
    omega
theorem sum_le2 : ∀ (a b : List Int), a.length = b.length → (∀ j, j < a.length → a.getD j 0 ≤ b.getD j 0) → a.sum ≤ b.sum
  | [], [], _, _ => by simp
  | [], _ :: _, h, _ => by simp at h
  | _ :: _, [], h, _ => by simp at h
  | x :: a, y :: b, h, k => by
    have h0 := k 0 (by simp)
    have ih := sum_le2 a b (by simpa using h) fun j hj => by have := k (j + 1) (by simp; omega); simpa using this
    simp at h0 ⊢
    omega
theorem getD_set {l : List Int} {i j : Nat} {v : Int} (hi : i < l.length) : (l.set i v).getD j 0 = if i = j then v else l.getD j 0 := by
  simp only [List.getD, List.getElem?_set]
  by_cases h : i = j
  · subst h; simp [hi]
  · simp [h]
theorem two_ok {n m : Nat} {xs : List PV} {L : Ln} (hx : Box n xs) (hn : n + 1000 < 2 ^ 39) (hL : LOk m L) (hm : m ≤ 100) : WpB (fun p ys => ∃ a b, p = .tup [.tup (iv a), .tup (iv b)] ∧ SOk L a ∧ SOk L b ∧ (L.ring = true → a.sum = b.sum) ∧ Box (n + 400) ys) (fun _ _ => False) (f__law_two xs [lnv true true L]) := by
  have hle := hL.le
  simp_arith only [sum_sqi, f__law_two, c__law_two]
  refine (lies_ok hx (by omega) hL (by omega)).use fun p ys hp => ?_
  obtain ⟨a, rfl, hA, hb⟩ := hp
  try simp_arith only [sum_sqi]
  refine (lies_ok hb (by omega) hL (by omega)).use fun p ys hp => ?_
  obtain ⟨b, rfl, hB, hb⟩ := hp
  try simp_arith only [sum_sqi]
  cases hr : L.ring with
  | false =>
    simp only [Bool.false_eq_true, if_false]
    try simp_arith only [sum_sqi]
    exact ⟨a, b, rfl, hA, hB, (fun z => by cases z), hb.mono (by omega)⟩
  | true =>
    simp only [if_true]
    have lb := hB.1
    simp_arith only [sum_sqi, lb]
    rw [if_pos (by omega)]
    simp only [Int.toNat_natCast]
    have hlen : (rangeP 0 L.rooms.length).length = L.rooms.length := by simp [rangeP]
    refine ws_forInv (fun i ρ => i ≤ L.rooms.length → ∃ (b : List Int) (x4 x5 : Slot), ρ = [.own ys, .val (lnv true true L), .val (.tup (iv a)), .own (iv b), x4, x5] ∧ SOk L b ∧ (a.sum = b.sum ∨ (b.sum < a.sum ∧ ∀ j, j < i → b.getD j 0 = L.rooms.getD j 0) ∨ (a.sum < b.sum ∧ ∀ j, j < i → b.getD j 0 = 0)))
      (fun _ => ⟨b, _, _, rfl, hB, by
        rcases Int.lt_trichotomy a.sum b.sum with q | q | q
        · exact .inr (.inr ⟨q, fun j h => by omega⟩)
        · exact .inl q
        · exact .inr (.inl ⟨q, fun j h => by omega⟩)⟩) ?_ ?_
    · rintro i p ρ e h
      obtain ⟨hi, rfl⟩ := rangeP_get e
      obtain ⟨b, x4, x5, rfl, hB, hc⟩ := h (by omega)
      have lb := hB.1
      have r1 := at_iv (l := L.rooms) (j := i) hi
      have b1 := at_iv (l := b) (j := i) (by omega)
      have ix : ixN (iv b).length ((i : Nat) : Int) = some i := ixN_nat (by rw [iv_len]; omega)
      have sb : pvSum (.lst (iv b)) = some (.int b.sum) := sum_sqi (t := false)
      have hbi := hB.2 i hi
      generalize ev : max 0 (min (L.rooms.getD i 0) (b.getD i 0 + (a.sum - b.sum))) = v
      have es : (iv b).set i (.int v) = iv (b.set i v) := by simp only [iv, List.map_set]
      have hs := sum_set b i v (by omega)
      rw [iv_len] at ix
      simp_arith only [sum_sqi, Int.zero_add, sb, r1, b1, ev, ix, es]
      refine fun _ => ⟨_, _, _, rfl, ⟨by simp [lb], fun j hj => ?_⟩, ?_⟩
      · rw [getD_set (by omega)]
        split
        · rename_i q; subst q; omega
        · exact hB.2 j hj
      · rw [hs]
        have pre : ∀ (P : Nat → Int → Prop), P i v → (∀ j, j < i → P j (b.getD j 0)) → ∀ j, j < i + 1 → P j ((b.set i v).getD j 0) := fun P h1 h2 j hj => by
          rw [getD_set (by omega)]
          split
          · rename_i q; subst q; exact h1
          · exact h2 j (by omega)
        rcases hc with q | ⟨q, w⟩ | ⟨q, w⟩
        · left; omega
        · by_cases c : b.getD i 0 + (a.sum - b.sum) ≤ L.rooms.getD i 0
          · left; omega
          · right; left
            exact ⟨by omega, pre (fun j x => x = L.rooms.getD j 0) (by omega) w⟩
        · by_cases c : 0 ≤ b.getD i 0 + (a.sum - b.sum)
          · left; omega
          · right; right
            exact ⟨by omega, pre (fun _ x => x = 0) (by omega) w⟩
    · intro ρ h
      obtain ⟨b, x4, x5, rfl, hB, hc⟩ := h (by omega)
      rw [hlen] at hc
      try simp_arith only [sum_sqi]
      refine ⟨a, b, rfl, hA, hB, fun _ => ?_, hb.mono (by omega)⟩
      rcases hc with q | ⟨q, w⟩ | ⟨q, w⟩
      · exact q
      · have := sum_le2 a b (by rw [hA.1, hB.1]) fun j hj => by
          rw [hA.1] at hj
          rw [w j hj]
          exact (hA.2 j hj).2
        omega
      · have := sum_le2 b a (by rw [hA.1, hB.1]) fun j hj => by
          rw [hB.1] at hj
          rw [w j hj]
          exact (hA.2 j hj).1
        omega
theorem SOk.tw {L : Ln} {a b : List Int} (h : SOk L a) (k : SOk L b) (s : L.ring = true → a.sum = b.sum) : Tw L a b := ⟨h.1, k.1, s⟩
theorem same60 : ∀ (d : Nat) (p : PV), Pl d p → f__law_same_k60 d [p, p] = .ok (.bl true)
  | 0, p, h => h.elim
  | d + 1, p, h => by
    have seq : ∀ xs : List PV, xs.length ≤ sizeLine → (∀ x ∈ xs, Pl d x) → ∀ (r : Rho) (QA : List PV → Rho → Prop), r.length = 4 → QA (xs.map fun _ => .bl true) ((r.set 3 .emp).set 2 .emp) →
        WpC QA (compL (mgTup (mgCons (mgName 2) (mgCons (mgName 3) (mgNil)))) (mYes) (mCall (f__law_same_k60 d) [mName 2, mName 3]) [2, 3] (xs.map fun x => pairP x x) [] ((r.set 3 .emp).set 2 .emp)) := fun xs hl hx r QA hr hq => by
      match r, hr with
      | [a, b, c, e], _ =>
      refine wpC_map (fun _ => .bl true) (by simpa using hl) (fun p hp => ?_) (by simpa [Function.comp_def] using hq)
      obtain ⟨x, hxm, rfl⟩ := List.mem_map.mp hp
      have ih := same60 d x (hx x hxm)
      simp_arith only [sum_sqi, pairP, ih]
    rw [wpP_eq]
    rw [f__law_same_k60]
    cases p with
    | non => simp_arith only [sum_sqi, c__law_same_k60]; simp [pvEq, okD, pvD, PyData.eqv]
    | bl b => simp_arith only [sum_sqi, c__law_same_k60]; simp [pvIs]
    | int i => simp_arith only [sum_sqi, c__law_same_k60]; simp [pvIs]
    | str x =>
      have hx : PyData.strOk x = true := h
      simp_arith only [sum_sqi, c__law_same_k60, eq_ss hx hx]; simp
    | tup xs =>
      simp_arith only [sum_sqi, c__law_same_k60, zip_self]
      refine seq xs h.1 h.2 [_, _, .emp, .emp] _ rfl ?_
      simp_arith only [sum_sqi, pvAll, bls_true]
      simp
    | lst xs =>
      simp_arith only [sum_sqi, c__law_same_k60, zip_self]
      refine seq xs h.1 h.2 [_, _, .emp, .emp] _ rfl ?_
      simp_arith only [sum_sqi, pvAll, bls_true]
      simp
    | dic _ _ => exact h.elim
    | scr _ => exact h.elim
    | ty _ => exact h.elim
end Ev

set_option maxHeartbeats 2000000
set_option linter.all false
set_option Elab.async false
set_option maxRecDepth 100000
namespace Ev
open PySem L2
local macro_rules | `(tactic| simp_arith only [$ls,*]) => `(tactic| simp -implicitDefEqProofs only [Nat.reduceSub, Nat.reduceAdd, Int.reduceLT, Int.reduceLE, Int.reduceGT, Int.reduceGE, Int.reduceEq, Int.reducePow, Nat.reducePow, Nat.reduceMul, Int.reduceNeg, Int.reduceToNat, Int.reduceAbs, Int.reduceMod, Int.reduceDiv, Int.reduceAdd, Int.reduceSub, Int.reduceMul, Nat.reduceLT, Nat.reduceLeDiff, Nat.reduceEqDiff, decide_eq_true_eq, decide_true, decide_false, and_true, true_and, true_or, or_true, false_or, or_false, and_false, false_and, if_false, ite_true, ite_false, PV.int.injEq, PV.bl.injEq, exists_eq_left', Bool.not_true, Bool.not_false, Bool.false_eq_true, not_true_eq_false, not_false_eq_true, reduceCtorEq, Option.some.injEq, wp_ok, wp_exc, wp_bad, wo_some, wo_none, wo_if, wo_map, wo_bind, wp_of, ws_nx, ws_rt, ws_rf, ws_bk, ws_ct, ws_exc, ws_bad, wp_name, wp_c, wp_m2, wp_m1, wp_test, wp_truthN, wp_sumN, wp_lenN, wp_ixN, wp_and, wp_or, wp_notT, wp_andV, wp_orV, wp_notV, wp_if, wp_ifF, wp_args0, wp_args1, wp_tup, wp_frz, wp_callB, wp_callF, wp_cat, wp_repL, wp_chain, wp_cut, wp_part0, wp_part1, wp_call, wp_callFr, wp_callBx, wp_popN, wp_index, wp_yes, wp_seqI, wp_range, wp_revI, wp_zip, wp_zipB, wp_zipS, wp_enum, wp_zip3, wp_enZ, wp_callK, wp_callKF, wp_callBxF, wp_cps0, wp_cps1, wp_cpv, wp_cpf, ws_parG, ws_seq, ws_nil, ws_never, ws_pass, ws_ret, ws_retF, ws_retN, ws_set, ws_setF, ws_if, ws_asg, ws_par, ws_par3, ws_parF, ws_aug, ws_append, ws_setIx, ws_reverse, ws_clear, ws_extend, ws_popAt, ws_insert, wp_cmpN, wp_callBr, wpP_runP, wpF_runF, wpB_runB, wpP_ok, wpF_ok, wpP_exc, wpB_ok, ws_for', ws_forNil, wp_comp, wpC_nil, ev_g0, ev_gs, ev_gn, ev_s0, ev_ss, ev_m0, ev_m1, ev_a0, ev_a1, ev_r0, ev_rs, ev_l0, ev_l1, ev_d0, ev_d1, ev_ob, ev_om, ev_it, ev_if, ev_gl, ev_gl1, ev_dl, ev_dl1, ev_gla, ev_dla, add_ii, addI_ii, sub_ii, add_ll, add_tt, mod_ii, div_ii, pow_ii, mul_ii, mul_li, lt_ii, le_ii, gt_ii, ge_ii, neg_i, eq_ii, ne_ii, eq_bb, ne_bb, xor_f, xor_t, eq_str, ne_str, is_bb, isnot_bb, is_n, is_in, is_sn, is_bn, is_tn, is_ln, isnot_n, isnot_in, truth_b, truth_i, truth_l, truth_t, len_l, len_t, len_s, ix_l, ix_t, ix_s, seq_l, seq_t, seq_s, tuple_l, tuple_t, list_l, list_t, list_s, on1_p, abs_i, int_b, int_i, max_ii, min_ii, max1_l, min1_l, rev_l, rev_t, zip_ll, zip_tt, cat_ll, range_1, range_2, slot_0, slot_s, zip3_lll, zip3_llt, zip3_ltl, zip3_ltt, zip3_tll, zip3_tlt, zip3_ttl, zip3_ttt, zipB_ll, zipB_tt, zipB_lt, zipB_tl, zipS_ll, zipS_tt, zipS_lt, zipS_tl, omap_en, enum_l, enum_t, down_l, down_t, down_t0, setAll_0, setAll_1, atom_n, atom_b, atom_i, atom_s, permP_0, permP_1, getD_0, getD_s, isi_int_i, isi_int_b, isi_bool_i, isi_bool_b, isi_tup_t, isi_tup_l, isi_lst_l, isi_lst_t, isi_str_s, isi_str_i, isi_str_b, isi_str_n, isi_lt_l, isi_lt_t, isi_lt_i, isi_lt_b, isi_lt_s, isi_lt_n, at_0, at_1, at_2, at_3, at_last, mg_name, mg_tup, mg_lst, mg_nil, mg_cons, own0_own, startR_eq, wipe_0, wipe_1, back_0, back_1, ixN_3_0, ixN_3_1, ixN_3_2, szl, sze, wp_dict, eq_ints, eq_ww, eq_wf, sq_t, sq_f, ix_sq, len_sq, tuple_sq, list_sq, seq_sq, revI_sq, mg_sq, zipS_sq, zipS_st, zipS_ts, zipB_sq, zipB_st, zipB_ts, eq_fm, eq_fmr, iv_len, wvs_len, isring_ok, bins_ok, gates_ok, behind_ok, ahead_ok, out_ok, eq_iv, ne_iv, ix_tv0, ix_tv1, tv_mk, mg_tv, tuple_tv, in_ww, isi_tv, len_tv, eq_tvs, dix_w, lnv_0, lnv_1, sum_iv, wp_dictE, enum_sq, sides_ok, $ls,*])
/-! how far turns ever go, and how often the other way further than ever -/
structure Rc where
  r : Nat
  up : Bool
  lo : Int
  hi : Int
  at' : Int
def Rc0 : Rc := ⟨0, true, 0, 0, 0⟩
/-- a first turn is one, too -/
def rcA (s : Rc) (t : T) : Rc :=
  let p := s.at' + if t.1 then t.2 else -t.2
  if s.hi < p then ⟨if s.r = 0 ∨ s.up = false then s.r + 1 else s.r, true, s.lo, p, p⟩
  else if p < s.lo then ⟨if s.r = 0 ∨ s.up = true then s.r + 1 else s.r, false, p, s.hi, p⟩
  else { s with at' := p }
def RcV (s : Rc) : Prop := s.lo ≤ s.at' ∧ s.at' ≤ s.hi
theorem rc_up {s : Rc} {m : Int} (h : RcV s) (hm : 0 < m) : rcA s (true, m) = if s.hi < s.at' + m then ⟨if s.r = 0 ∨ s.up = false then s.r + 1 else s.r, true, s.lo, s.at' + m, s.at' + m⟩ else { s with at' := s.at' + m } := by
  have h1 := h.1
  have h2 := h.2
  simp only [rcA, if_true]
  by_cases c : s.hi < s.at' + m
  · rw [if_pos c, if_pos c]
  · rw [if_neg c, if_neg c, if_neg (by omega)]
theorem rc_dn {s : Rc} {m : Int} (h : RcV s) (hm : 0 < m) : rcA s (false, m) = if s.at' - m < s.lo then ⟨if s.r = 0 ∨ s.up = true then s.r + 1 else s.r, false, s.at' - m, s.hi, s.at' - m⟩ else { s with at' := s.at' - m } := by
  have h1 := h.1
  have h2 := h.2
  simp only [rcA, Bool.false_eq_true, if_false, ← Int.sub_eq_add_neg]
  rw [if_neg (by omega)]
theorem rcV_keep {s : Rc} {t : T} (h : RcV s) (ht : 0 < t.2) : RcV (rcA s t) := by
  obtain ⟨w, m⟩ := t
  have h1 := h.1
  have h2 := h.2
  simp only at ht
  cases w with
  | true =>
    rw [rc_up h ht]
    split
    · exact ⟨by show s.lo ≤ s.at' + m; omega, Int.le_refl _⟩
    · exact ⟨by show s.lo ≤ s.at' + m; omega, by show s.at' + m ≤ s.hi; omega⟩
  | false =>
    rw [rc_dn h ht]
    split
    · exact ⟨Int.le_refl _, by show s.at' - m ≤ s.hi; omega⟩
    · exact ⟨by show s.lo ≤ s.at' - m; omega, by show s.at' - m ≤ s.hi; omega⟩
theorem rc_act : Act RcV rcA := by
  refine ⟨fun x t h ht => rcV_keep h ht, fun x w a b h ha hb => ?_, fun x w b h hb => ?_⟩
  · have h1 := h.1
    have h2 := h.2
    have hk := rcV_keep (t := (w, a)) h ha
    cases w with
    | true =>
      rw [rc_up hk hb, rc_up h ha, rc_up h (show 0 < a + b by omega)]
      by_cases c : x.hi < x.at' + a
      · rw [if_pos c, if_pos (show x.hi < x.at' + (a + b) by omega)]
        rw [if_pos (show x.at' + a < x.at' + a + b by omega)]
        have n0 : ¬ ((if x.r = 0 ∨ x.up = false then x.r + 1 else x.r) = 0 ∨ true = false) := by
          split
          · simp
          · rename_i q; simp at q ⊢; omega
        simp only [if_neg n0, Int.add_assoc]
      · simp only [if_neg c]
        by_cases c2 : x.hi < x.at' + (a + b)
        · rw [if_pos (by omega), if_pos c2]; simp only [Int.add_assoc]
        · rw [if_neg (by omega), if_neg c2]; simp only [Int.add_assoc]
    | false =>
      rw [rc_dn hk hb, rc_dn h ha, rc_dn h (show 0 < a + b by omega)]
      by_cases c : x.at' - a < x.lo
      · rw [if_pos c, if_pos (show x.at' - (a + b) < x.lo by omega)]
        rw [if_pos (show x.at' - a - b < x.at' - a by omega)]
        have n0 : ¬ ((if x.r = 0 ∨ x.up = true then x.r + 1 else x.r) = 0 ∨ false = true) := by
          split
          · simp
          · rename_i q; simp at q ⊢; omega
        simp only [if_neg n0, ← Int.sub_sub]
      · simp only [if_neg c]
        by_cases c2 : x.at' - (a + b) < x.lo
        · rw [if_pos (by omega), if_pos c2]; simp only [← Int.sub_sub]
        · rw [if_neg (by omega), if_neg c2]; simp only [← Int.sub_sub]
  · have h1 := h.1
    have h2 := h.2
    have k1 := rcV_keep (t := (w, b)) h hb
    have k2 := rcV_keep (t := (!w, b)) k1 hb
    cases w with
    | true =>
      have e1 : rcA (rcA x (true, b)) (false, b) = { rcA x (true, b) with at' := x.at' } := by
        rw [rc_dn k1 hb, rc_up h hb]
        by_cases c : x.hi < x.at' + b
        · simp only [if_pos c]; rw [if_neg (by omega)]; simp only [Int.add_sub_cancel]
        · simp only [if_neg c]; rw [if_neg (by omega)]; simp only [Int.add_sub_cancel]
      show rcA (rcA (rcA x (true, b)) (false, b)) (true, b) = _
      have k2' : RcV (rcA (rcA x (true, b)) (false, b)) := k2
      rw [e1] at k2' ⊢
      rw [rc_up k2' hb, rc_up h hb]
      by_cases c : x.hi < x.at' + b
      · simp only [if_pos c]; rw [if_neg (by omega)]
      · simp only [if_neg c]
    | false =>
      have e1 : rcA (rcA x (false, b)) (true, b) = { rcA x (false, b) with at' := x.at' } := by
        rw [rc_up k1 hb, rc_dn h hb]
        by_cases c : x.at' - b < x.lo
        · simp only [if_pos c]; rw [if_neg (by omega)]; simp only [Int.sub_add_cancel]
        · simp only [if_neg c]; rw [if_neg (by omega)]; simp only [Int.sub_add_cancel]
      show rcA (rcA (rcA x (false, b)) (true, b)) (false, b) = _
      have k2' : RcV (rcA (rcA x (false, b)) (true, b)) := k2
      rw [e1] at k2' ⊢
      rw [rc_dn k2' hb, rc_dn h hb]
      by_cases c : x.at' - b < x.lo
      · simp only [if_pos c]; rw [if_neg (by omega)]
      · simp only [if_neg c]
theorem rc0_ok : RcV Rc0 := ⟨Int.le_refl _, Int.le_refl _⟩
def rcF (s : Rc) (ts : List T) : Rc := ts.foldl rcA s
theorem rcF_app (s : Rc) (a b : List T) : rcF s (a ++ b) = rcF (rcF s a) b := by simp [rcF]
theorem rc_le (s : Rc) (t : T) : s.r ≤ (rcA s t).r ∧ (rcA s t).r ≤ s.r + 1 := by
  have go : ∀ (q : Prop) [Decidable q], s.r ≤ (if q then s.r + 1 else s.r) ∧ (if q then s.r + 1 else s.r) ≤ s.r + 1 := fun q _ => by split <;> omega
  unfold rcA
  by_cases c : s.hi < s.at' + (if t.1 then t.2 else -t.2)
  · simp only [if_pos c]; exact go _
  · by_cases c2 : s.at' + (if t.1 then t.2 else -t.2) < s.lo
    · simp only [if_neg c, if_pos c2]; exact go _
    · simp only [if_neg c, if_neg c2]; omega
theorem rcF_le : ∀ (ts : List T) (s : Rc), s.r ≤ (rcF s ts).r ∧ (rcF s ts).r ≤ s.r + ts.length
  | [], s => by simp [rcF]
  | t :: ts, s => by
    have h1 := rc_le s t
    have h2 := rcF_le ts (rcA s t)
    simp only [rcF, List.foldl_cons, List.length_cons] at h2 ⊢
    omega
theorem rcF_V {ts : List T} {s : Rc} (h : RcV s) (hp : Ps ts) : RcV (rcF s ts) := rc_act.run hp h
/-- what is left goes as far, as often -/
theorem rcF_fg {ts : List T} (h : Ps ts) : rcF Rc0 (fg ts) = rcF Rc0 ts := rc_act.fg rc0_ok h
/-! a rise -/
/-- each longer than the one ahead -/
def Rise : List T → Prop
  | a :: b :: r => a.2 < b.2 ∧ Rise (b :: r)
  | _ => True
theorem rise_go : ∀ (r : List T) (a : T) (s : Rc), Rise (a :: r) → Alt (a :: r) → Ps (a :: r) → 0 < s.r → s.hi - s.lo = a.2 → s.up = a.1 → s.at' = (if a.1 then s.hi else s.lo) → (rcF s r).r = s.r + r.length
  | [], a, s, _, _, _, _, _, _, _ => by simp [rcF]
  | b :: r, a, s, hr, ha, hp, h0, h1, h2, h3 => by
    have hb := hp.tl.hd
    have hab := hr.1
    have hpa := hp.hd
    obtain ⟨w, m⟩ := b
    obtain ⟨v, k⟩ := a
    have ev : v = !w := ha.1
    subst ev
    simp only at hb hab h1 h2 h3 hpa
    have hV : RcV s := by
      cases w <;> simp at h3 <;> constructor <;> omega
    have step : rcA s (w, m) = ⟨s.r + 1, w, if w then s.lo else s.lo + (k - m), if w then s.hi + (m - k) else s.hi, if w then s.hi + (m - k) else s.lo + (k - m)⟩ := by
      cases w with
      | true =>
        simp at h2 h3
        rw [rc_up hV hb, if_pos (by omega)]
        simp only [h2, or_true, if_true, Rc.mk.injEq, true_and]
        constructor <;> omega
      | false =>
        simp at h2 h3
        rw [rc_dn hV hb, if_pos (by omega)]
        simp only [h2, or_true, if_true, Rc.mk.injEq, true_and, Bool.false_eq_true, if_false]
        constructor
        · omega
        · omega
    have ih := rise_go r (w, m) (rcA s (w, m)) hr.2 ha.2 hp.tl (by rw [step]; simp) (by rw [step]; cases w <;> simp <;> omega) (by rw [step]) (by rw [step]; cases w <;> simp)
    simp only [rcF, List.foldl_cons, List.length_cons] at ih ⊢
    rw [ih, step]
    show s.r + 1 + r.length = _
    omega
theorem rise_r {ts : List T} (hr : Rise ts) (ha : Alt ts) (hp : Ps ts) : (rcF Rc0 ts).r = ts.length := by
  match ts, hr, ha, hp with
  | [], _, _, _ => rfl
  | a :: r, hr, ha, hp =>
    have h0 := hp.hd
    have st : rcA Rc0 a = ⟨1, a.1, if a.1 then 0 else -a.2, if a.1 then a.2 else 0, if a.1 then a.2 else -a.2⟩ := by
      obtain ⟨w, m⟩ := a
      simp only at h0
      cases w with
      | true => rw [rc_up rc0_ok h0, if_pos (by show (0 : Int) < 0 + m; omega)]; simp [Rc0]
      | false => rw [rc_dn rc0_ok h0, if_pos (by show (0 : Int) - m < 0; omega)]; simp [Rc0]
    have := rise_go r a (rcA Rc0 a) hr ha hp (by rw [st]; simp) (by rw [st]; cases a.1 <;> simp) (by rw [st]) (by rw [st]; cases a.1 <;> simp)
    simp only [rcF, List.foldl_cons, List.length_cons] at this ⊢
    rw [this, st]
    show 1 + r.length = _
    omega
/-- what is left rises, then falls -/
theorem Red.part : ∀ {l : List T}, Red l → ∃ a b, l = a ++ b ∧ Rise a ∧ Rise b.reverse
  | [], _ => ⟨[], [], rfl, trivial, trivial⟩
  | [x], _ => ⟨[x], [], rfl, trivial, trivial⟩
  | x :: y :: r, h => by
    by_cases c : x.2 < y.2
    · obtain ⟨a, b, e, ha, hb⟩ := Red.part h.tl
      match a, e, ha with
      | [], e, _ => 
        refine ⟨[x], b, by rw [e]; rfl, trivial, hb⟩
      | z :: a, e, ha =>
        have ez : z = y := by simp at e; exact e.1.symm
        subst ez
        exact ⟨x :: z :: a, b, by rw [e]; rfl, ⟨c, ha⟩, hb⟩
    · refine ⟨[x], y :: r, rfl, trivial, ?_⟩
      -- from here on it falls
      have fall : ∀ (r : List T) (x y : T), Red (x :: y :: r) → ¬ x.2 < y.2 → Rise (y :: r).reverse := by
        intro r
        induction r with
        | nil => intro x y _ _; trivial
        | cons z r ih =>
          intro x y h c
          have hz : z.2 < y.2 := by
            by_cases q : z.2 < y.2
            · exact q
            · exact absurd (Int.le_min.mpr ⟨by omega, by omega⟩) h.1
          have := ih y z h.2 (by omega)
          rw [List.reverse_cons]
          have snoc : ∀ (l : List T) (z y : T), Rise (l ++ [z]) → z.2 < y.2 → Rise (l ++ [z] ++ [y]) := by
            intro l
            induction l with
            | nil => intro z y _ q; exact ⟨q, trivial⟩
            | cons a l ih =>
              intro z y h q
              cases l with
              | nil => exact ⟨h.1, q, trivial⟩
              | cons b l => exact ⟨h.1, ih z y h.2 q⟩
          rw [List.reverse_cons] at this ⊢
          exact snoc _ z y this hz
      exact fall r x y h c
theorem Alt.pre : ∀ {a b : List T}, Alt (a ++ b) → Alt a
  | [], b, _ => trivial
  | [x], b, _ => trivial
  | x :: y :: a, b, h => ⟨h.1, Alt.pre (a := y :: a) h.2⟩
theorem Alt.suf : ∀ {a b : List T}, Alt (a ++ b) → Alt b
  | [], b, h => h
  | x :: a, b, h => Alt.suf (a := a) h.tl
theorem Rise.map : ∀ {l : List T}, Rise l → Rise (l.map fl)
  | [], _ => trivial
  | [a], _ => trivial
  | a :: b :: r, h => ⟨h.1, Rise.map h.2⟩
/-- no longer than as often as it goes further than ever, from both ends -/
theorem St'.len {u : List T} (h : St' u) : u.length ≤ (rcF Rc0 u).r + (rcF Rc0 (Ev.bk u)).r := by
  obtain ⟨a, b, e, ha, hb⟩ := h.red.part
  subst e
  have h1 := rise_r ha h.alt.pre h.pos.l
  have h2 := rcF_le b (rcF Rc0 a)
  rw [← rcF_app] at h2
  have e2 : Ev.bk (a ++ b) = (b.reverse.map fl) ++ Ev.bk a := by rw [bk_app]; rfl
  have h3 := rise_r hb.map (h.alt.suf.rev.map) (bk_Ps h.pos.r)
  have h4 := rcF_le (Ev.bk a) (rcF Rc0 (b.reverse.map fl))
  rw [← rcF_app, ← e2] at h4
  rw [List.length_map, List.length_reverse] at h3
  rw [List.length_append]
  omega
/-! the same over and over -/
/-- the least that turns come to on their way -/
def mnT : List T → Int
  | [] => 0
  | t :: ts => min 0 ((if t.1 then t.2 else -t.2) + mnT ts)
def mxT : List T → Int
  | [] => 0
  | t :: ts => max 0 ((if t.1 then t.2 else -t.2) + mxT ts)
theorem mnT_le (ts : List T) : mnT ts ≤ 0 := by cases ts <;> simp [mnT] <;> omega
theorem mxT_ge (ts : List T) : 0 ≤ mxT ts := by cases ts <;> simp [mxT] <;> omega
/-- where it ends -/
theorem rcF_at : ∀ (ts : List T) (s : Rc), (rcF s ts).at' = s.at' + nt ts
  | [], s => by simp [rcF]
  | t :: ts, s => by
    have h := rcF_at ts (rcA s t)
    have e : (rcA s t).at' = s.at' + if t.1 then t.2 else -t.2 := by
      unfold rcA
      by_cases c : s.hi < s.at' + (if t.1 then t.2 else -t.2)
      · simp only [if_pos c]
      · by_cases c2 : s.at' + (if t.1 then t.2 else -t.2) < s.lo
        · simp only [if_neg c, if_pos c2]
        · simp only [if_neg c, if_neg c2]
    simp only [rcF, List.foldl_cons, nt_cons] at h ⊢
    rw [h, e]; omega
theorem rcA_lo (s : Rc) (t : T) (h : RcV s) (ht : 0 < t.2) : (rcA s t).lo = min s.lo (s.at' + if t.1 then t.2 else -t.2) ∧ (rcA s t).hi = max s.hi (s.at' + if t.1 then t.2 else -t.2) := by
  obtain ⟨w, m⟩ := t
  have h1 := h.1
  have h2 := h.2
  simp only at ht
  cases w with
  | true => rw [rc_up h ht]; simp only [if_true]; split <;> simp only <;> omega
  | false => rw [rc_dn h ht]; simp only [Bool.false_eq_true, if_false]; split <;> simp only <;> omega
theorem rcF_lo : ∀ (ts : List T) (s : Rc), RcV s → Ps ts → (rcF s ts).lo = min s.lo (s.at' + mnT ts) ∧ (rcF s ts).hi = max s.hi (s.at' + mxT ts)
  | [], s, h, _ => by
    have h1 := h.1
    have h2 := h.2
    simp only [rcF, List.foldl_nil, mnT, mxT]
    omega
  | t :: ts, s, h, hp => by
    have ih := rcF_lo ts (rcA s t) (rcV_keep h hp.hd) hp.tl
    have e := rcA_lo s t h hp.hd
    have ea := rcF_at [t] s
    simp only [rcF, List.foldl_cons, List.foldl_nil, nt_cons, nt_nil] at ea
    have h1 := h.1
    have h2 := h.2
    simp only [rcF, List.foldl_cons, mnT, mxT] at ih ⊢
    rw [ih.1, ih.2, e.1, e.2, ea]
    generalize (if t.1 then t.2 else -t.2) = d
    have := mnT_le ts
    have := mxT_ge ts
    omega
/-- none lower than ever: the other way once at most -/
theorem rc_phi : ∀ (ts : List T) (s : Rc) (b : Bool), RcV s → Ps ts → 0 < s.r → (if b then s.lo ≤ s.at' + mnT ts else s.at' + mxT ts ≤ s.hi) → (rcF s ts).r + (if (rcF s ts).up = b then 0 else 1) ≤ s.r + (if s.up = b then 0 else 1)
  | [], s, b, _, _, _, _ => Nat.le_refl _
  | t :: ts, s, b, h, hp, h0, hc => by
    have h1 := h.1
    have h2 := h.2
    obtain ⟨w, m⟩ := t
    have hm := hp.hd
    simp only at hm
    have le0 := mnT_le ts
    have ge0 := mxT_ge ts
    have hv := rcV_keep (t := (w, m)) h hm
    have ea := rcF_at [(w, m)] s
    simp only [rcF, List.foldl_cons, List.foldl_nil, nt_cons, nt_nil] at ea
    have el := rcA_lo s (w, m) h hm
    have hr := (rc_le s (w, m)).1
    have c2 : (if b then (rcA s (w, m)).lo ≤ (rcA s (w, m)).at' + mnT ts else (rcA s (w, m)).at' + mxT ts ≤ (rcA s (w, m)).hi) := by
      rw [ea, el.1, el.2]
      cases b <;> cases w <;> simp [mnT, mxT] at hc ⊢ <;> omega
    have ih := rc_phi ts (rcA s (w, m)) b hv hp.tl (by omega) c2
    have one : (rcA s (w, m)).r + (if (rcA s (w, m)).up = b then 0 else 1) ≤ s.r + (if s.up = b then 0 else 1) := by
      cases w with
      | true =>
        rw [rc_up h hm]
        by_cases c : s.hi < s.at' + m
        · rw [if_pos c]
          cases b with
          | true =>
            simp only [if_true]
            cases hu : s.up <;> simp <;> split <;> omega
          | false =>
            exfalso
            simp [mxT] at hc
            omega
        · rw [if_neg c]; exact Nat.le_refl _
      | false =>
        rw [rc_dn h hm]
        by_cases c : s.at' - m < s.lo
        · rw [if_pos c]
          cases b with
          | false =>
            cases hu : s.up <;> simp <;> split <;> omega
          | true =>
            exfalso
            simp [mnT] at hc
            omega
        · rw [if_neg c]; exact Nat.le_refl _
    exact Nat.le_trans ih one
theorem rc_often {x : List T} (hp : Ps x) (hx : x ≠ []) : ∀ k : Nat, ∃ b : Bool, (rcF Rc0 (rp (k + 1) x)).r + (if (rcF Rc0 (rp (k + 1) x)).up = b then 0 else 1) ≤ x.length + 1 ∧ (b = decide (0 ≤ nt x)) ∧ 0 < (rcF Rc0 (rp (k + 1) x)).r
  | 0 => by
    refine ⟨decide (0 ≤ nt x), ?_, rfl, ?_⟩
    · rw [rp_1]
      have := (rcF_le x Rc0).2
      have e : Rc0.r = 0 := rfl
      split <;> omega
    · rw [rp_1]
      match x, hx, hp with
      | a :: r, _, hp =>
        have h0 := hp.hd
        have h1 : (rcA Rc0 a).r = 1 := by
          obtain ⟨w, m⟩ := a
          simp only at h0
          cases w with
          | true => rw [rc_up rc0_ok h0, if_pos (by show (0 : Int) < 0 + m; omega)]; simp [Rc0]
          | false => rw [rc_dn rc0_ok h0, if_pos (by show (0 : Int) - m < 0; omega)]; simp [Rc0]
        have := (rcF_le r (rcA Rc0 a)).1
        simp only [rcF, List.foldl_cons] at this ⊢
        omega
  | k + 1 => by
    obtain ⟨b, h1, h2, h3⟩ := rc_often hp hx k
    have hv : RcV (rcF Rc0 (rp (k + 1) x)) := rcF_V rc0_ok (rp_Ps hp _)
    have lo1 := rcF_lo (rp k x) (rcF Rc0 x) (rcF_V rc0_ok hp) (rp_Ps hp _)
    have lo0 := rcF_lo x Rc0 rc0_ok hp
    rw [← rcF_app, ← rp_succ'] at lo1
    have hat := rcF_at (rp (k + 1) x) Rc0
    rw [rp_nt] at hat
    have e0 : Rc0.at' = 0 := rfl
    have e1 : Rc0.lo = 0 := rfl
    have e2 : Rc0.hi = 0 := rfl
    rw [e0] at lo0 hat
    rw [e1, e2] at lo0
    have hm := mnT_le x
    have hM := mxT_ge x
    refine ⟨b, ?_, h2, ?_⟩
    · rw [rp_succ, rcF_app]
      refine Nat.le_trans (rc_phi x _ b hv hp h3 ?_) h1
      rw [h2]
      by_cases hd : 0 ≤ nt x
      · simp only [hd, decide_true, if_true]
        have : 0 ≤ ((k + 1 : Nat) : Int) * nt x := Int.mul_nonneg (by omega) hd
        rw [hat, lo1.1, lo0.1]
        omega
      · simp only [hd, decide_false, Bool.false_eq_true, if_false]
        have : ((k + 1 : Nat) : Int) * nt x ≤ 0 := Int.mul_nonpos_of_nonneg_of_nonpos (by omega) (by omega)
        rw [hat, lo1.2, lo0.2]
        omega
    · rw [rp_succ, rcF_app]
      have := (rcF_le x (rcF Rc0 (rp (k + 1) x))).1
      omega
theorem rp_bk (n : Nat) (x : List T) : bk (rp n x) = rp n (bk x) := by
  induction n with
  | zero => rfl
  | succ n ih => rw [rp_succ, bk_app, ih, ← rp_succ']
/-- so often as you like, never longer -/
theorem so_len {x : List T} (hp : Ps x) (n : Nat) : (fg (rp n x)).length ≤ 2 * (x.length + 1) := by
  match n with
  | 0 => simp [rp_0, fg, fgR]
  | n + 1 =>
    by_cases hx : x = []
    · subst hx
      have : rp (n + 1) ([] : List T) = [] := by simp [rp]
      rw [this]; simp [fg, fgR]
    · have h := (fg_isSt (rp_Ps hp (n + 1))).len
      rw [rcF_fg (rp_Ps hp _), ← fg_bk (rp_Ps hp _), rcF_fg (bk_Ps (rp_Ps hp _)), rp_bk] at h
      obtain ⟨b, h1, _, _⟩ := rc_often hp hx n
      have hx2 : bk x ≠ [] := by intro z; apply hx; have := congrArg bk z; rw [bk_bk] at this; exact this
      obtain ⟨b2, h2, _, _⟩ := rc_often (bk_Ps hp) hx2 n
      rw [bk_len] at h2
      have q1 : (rcF Rc0 (rp (n + 1) x)).r ≤ x.length + 1 := by omega
      have q2 : (rcF Rc0 (rp (n + 1) (bk x))).r ≤ x.length + 1 := by omega
      omega
theorem soS_far : ∀ (n many : Nat) {a b : Nat} {x : List T}, Ps x → x.length ≤ 90 → many < 2 ^ n → soS n many (fg (rp a x)) (fg (rp b x)) = true
  | 0, many, a, b, x, hp, hl, hm => by
    have : many = 0 := by simp at hm; omega
    simp [soS, this]
  | n + 1, many, a, b, x, hp, hl, hm => by
    have l1 := so_len hp a
    have l2 := so_len hp b
    have e1 : fg (fg (rp a x) ++ fg (rp b x)) = fg (rp (a + b) x) := by
      rw [(Sim.app (Sim.of_fg (rp_Ps hp a)) (Sim.of_fg (rp_Ps hp b)) (rp_Ps hp a)).fg, ← rp_add]
    have e2 : fg (fg (rp b x) ++ fg (rp b x)) = fg (rp (b + b) x) := by
      rw [(Sim.app (Sim.of_fg (rp_Ps hp b)) (Sim.of_fg (rp_Ps hp b)) (rp_Ps hp b)).fg, ← rp_add]
    rw [soS, e1, e2]
    simp only [Bool.and_eq_true, decide_eq_true_eq]
    refine ⟨⟨by omega, by omega⟩, ?_⟩
    have hh : many / 2 < 2 ^ n := by rw [Nat.pow_succ] at hm; omega
    by_cases h0 : 0 < many
    · rw [if_pos h0]
      by_cases c1 : many % 2 = 1 <;> by_cases c2 : 0 < many / 2 <;> simp only [c1, c2, if_true, if_false] <;> exact soS_far n _ hp hl hh
    · rw [if_neg h0]
/-- so often, as often as you like -/
theorem sofar_ok {ts : List T} {m : Nat} (hp : Ps ts) (hl : ts.length ≤ 90) (hm : m < 2 ^ 60) : f_so_often [.lst (tvs ts), .int m] = .ok (.lst (tvs (fg (rp m ts)))) := by
  have h := soS_far 60 m (a := 0) (b := 1) hp hl hm
  rw [rp_0, rp_1] at h
  rw [so_ok ts m (by omega) h, so_eq hp hm]
end Ev

set_option maxHeartbeats 2000000
set_option linter.all false
set_option Elab.async false
set_option maxRecDepth 100000
namespace Ev
open PySem L2
local macro_rules | `(tactic| simp_arith only [$ls,*]) => `(tactic| simp -implicitDefEqProofs only [Nat.reduceSub, Nat.reduceAdd, Int.reduceLT, Int.reduceLE, Int.reduceGT, Int.reduceGE, Int.reduceEq, Int.reducePow, Nat.reducePow, Nat.reduceMul, Int.reduceNeg, Int.reduceToNat, Int.reduceAbs, Int.reduceMod, Int.reduceDiv, Int.reduceAdd, Int.reduceSub, Int.reduceMul, Nat.reduceLT, Nat.reduceLeDiff, Nat.reduceEqDiff, decide_eq_true_eq, decide_true, decide_false, and_true, true_and, true_or, or_true, false_or, or_false, and_false, false_and, if_false, ite_true, ite_false, PV.int.injEq, PV.bl.injEq, exists_eq_left', Bool.not_true, Bool.not_false, Bool.false_eq_true, not_true_eq_false, not_false_eq_true, reduceCtorEq, Option.some.injEq, wp_ok, wp_exc, wp_bad, wo_some, wo_none, wo_if, wo_map, wo_bind, wp_of, ws_nx, ws_rt, ws_rf, ws_bk, ws_ct, ws_exc, ws_bad, wp_name, wp_c, wp_m2, wp_m1, wp_test, wp_truthN, wp_sumN, wp_lenN, wp_ixN, wp_and, wp_or, wp_notT, wp_andV, wp_orV, wp_notV, wp_if, wp_ifF, wp_args0, wp_args1, wp_tup, wp_frz, wp_callB, wp_callF, wp_cat, wp_repL, wp_chain, wp_cut, wp_part0, wp_part1, wp_call, wp_callFr, wp_callBx, wp_popN, wp_index, wp_yes, wp_seqI, wp_range, wp_revI, wp_zip, wp_zipB, wp_zipS, wp_enum, wp_zip3, wp_enZ, wp_callK, wp_callKF, wp_callBxF, wp_cps0, wp_cps1, wp_cpv, wp_cpf, ws_parG, ws_seq, ws_nil, ws_never, ws_pass, ws_ret, ws_retF, ws_retN, ws_set, ws_setF, ws_if, ws_asg, ws_par, ws_par3, ws_parF, ws_aug, ws_append, ws_setIx, ws_reverse, ws_clear, ws_extend, ws_popAt, ws_insert, wp_cmpN, wp_callBr, wpP_runP, wpF_runF, wpB_runB, wpP_ok, wpF_ok, wpP_exc, wpB_ok, ws_for', ws_forNil, wp_comp, wpC_nil, ev_g0, ev_gs, ev_gn, ev_s0, ev_ss, ev_m0, ev_m1, ev_a0, ev_a1, ev_r0, ev_rs, ev_l0, ev_l1, ev_d0, ev_d1, ev_ob, ev_om, ev_it, ev_if, ev_gl, ev_gl1, ev_dl, ev_dl1, ev_gla, ev_dla, add_ii, addI_ii, sub_ii, add_ll, add_tt, mod_ii, div_ii, pow_ii, mul_ii, mul_li, lt_ii, le_ii, gt_ii, ge_ii, neg_i, eq_ii, ne_ii, eq_bb, ne_bb, xor_f, xor_t, eq_str, ne_str, is_bb, isnot_bb, is_n, is_in, is_sn, is_bn, is_tn, is_ln, isnot_n, isnot_in, truth_b, truth_i, truth_l, truth_t, len_l, len_t, len_s, ix_l, ix_t, ix_s, seq_l, seq_t, seq_s, tuple_l, tuple_t, list_l, list_t, list_s, on1_p, abs_i, int_b, int_i, max_ii, min_ii, max1_l, min1_l, rev_l, rev_t, zip_ll, zip_tt, cat_ll, range_1, range_2, slot_0, slot_s, zip3_lll, zip3_llt, zip3_ltl, zip3_ltt, zip3_tll, zip3_tlt, zip3_ttl, zip3_ttt, zipB_ll, zipB_tt, zipB_lt, zipB_tl, zipS_ll, zipS_tt, zipS_lt, zipS_tl, omap_en, enum_l, enum_t, down_l, down_t, down_t0, setAll_0, setAll_1, atom_n, atom_b, atom_i, atom_s, permP_0, permP_1, getD_0, getD_s, isi_int_i, isi_int_b, isi_bool_i, isi_bool_b, isi_tup_t, isi_tup_l, isi_lst_l, isi_lst_t, isi_str_s, isi_str_i, isi_str_b, isi_str_n, isi_lt_l, isi_lt_t, isi_lt_i, isi_lt_b, isi_lt_s, isi_lt_n, at_0, at_1, at_2, at_3, at_last, mg_name, mg_tup, mg_lst, mg_nil, mg_cons, own0_own, startR_eq, wipe_0, wipe_1, back_0, back_1, ixN_3_0, ixN_3_1, ixN_3_2, szl, sze, wp_dict, eq_ints, eq_ww, eq_wf, sq_t, sq_f, ix_sq, len_sq, tuple_sq, list_sq, seq_sq, revI_sq, mg_sq, zipS_sq, zipS_st, zipS_ts, zipB_sq, zipB_st, zipB_ts, eq_fm, eq_fmr, iv_len, wvs_len, isring_ok, bins_ok, gates_ok, behind_ok, ahead_ok, out_ok, eq_iv, ne_iv, ix_tv0, ix_tv1, tv_mk, mg_tv, tuple_tv, in_ww, isi_tv, len_tv, eq_tvs, dix_w, lnv_0, lnv_1, sum_iv, wp_dictE, enum_sq, sides_ok, $ls,*])
/-! a law's own joining, its own forgetting -/
theorem ixN_last {n : Nat} : ixN (n + 1) (-1) = some n := by
  unfold ixN
  rw [if_neg (by omega), if_pos (by omega)]
  congr 1
  omega
theorem set_last {α : Type} {l : List α} {a b : α} : (l ++ [a]).set l.length b = l ++ [b] := by simp
theorem ne_ints (a b : List Int) : pvNe (ivs a) (ivs b) = some (.bl (!decide (a = b))) := by
  unfold pvNe ivs
  have h : ∀ a : List Int, okD 12 (.lst (a.map .int)) = true := fun a => by simp [okD]
  rw [h, h]
  simp only [pvD, PyData.eqv, eqv_ints]
  rfl
theorem eqv_nil (l : List T) : pvEqv (.lst (tvs l)) (.lst []) = some (decide (l = [])) := by
  have := eq_tvs l []
  exact eqv_of this rfl
theorem ljoined_ok (ts : List T) (hl : ts.length ≤ 900) : f__law_joined [.lst (tvs ts)] = .ok (.lst (tvs (jn ts))) := by
  rw [wpP_eq]
  simp_arith only [f__law_joined, c__law_joined]
  refine ws_forInv (fun i ρ => ∃ j j2, ρ = [.val (.lst (tvs ts)), .own (tvs ((ts.take i).foldl jnR []).reverse), j, j2]) ⟨_, _, rfl⟩ ?_ ?_
  · rintro i p ρ e ⟨j, j2, rfl⟩
    obtain ⟨t, et, rfl⟩ := tvs_get ts i p e
    have hlen : ((ts.take i).foldl jnR []).length ≤ 900 := by have := jn_len (ts.take i) []; simp at this; omega
    rw [take_snoc et, List.foldl_append]
    generalize (ts.take i).foldl jnR [] = l at hlen ⊢
    cases l with
    | nil =>
      have e0 : pvEqv (.lst []) (.lst []) = some true := eqv_nil []
      simp_arith only [tvs, List.reverse_nil, e0, szl]
      exact ⟨_, _, rfl⟩
    | cons a r =>
      obtain ⟨aw, am⟩ := a
      obtain ⟨w, m⟩ := t
      have e0 : pvEqv (.lst (tvs r.reverse ++ [tv (aw, am)])) (.lst []) = some false := by
        rw [← tvs_rev, eqv_nil]; simp
      have h2 : (tvs r.reverse ++ [tv (aw, am)]).length ≤ 1000000 := by simp at hlen; simp [tvs]; omega
      have il : ixN (tvs r.reverse ++ [tv (aw, am)]).length (-1) = some (tvs r.reverse).length := by
        rw [List.length_append]; exact ixN_last
      simp_arith only [tvs_rev, e0]
      by_cases hw : aw = w
      · subst hw
        simp_arith only [beq_self_eq_true, il, set_last]
        rw [← tvs_rev, show List.foldl jnR ((aw, am) :: r) [(aw, m)] = (aw, am + m) :: r by simp [jnR, Int.add_comm]]
        exact ⟨_, _, rfl⟩
      · have hb : (aw == w) = false := by simpa using hw
        simp_arith only [hb, szl h2]
        rw [← tvs_rev, ← tvs_rev, show List.foldl jnR ((aw, am) :: r) [(w, m)] = (w, m) :: (aw, am) :: r by simp [jnR, hw]]
        exact ⟨_, _, rfl⟩
  · rintro ρ ⟨j, j2, rfl⟩
    simp_arith only []
    simp [jn, tvs]
theorem spots_ok (l : List T) (hlen : l.length ≤ 900) : f__law_spots [.lst (tvs l)] = .ok (ivs (fgs l)) := by
  rw [wpP_eq]
  simp_arith only [f__law_spots, c__law_spots, tvs_length]
  rw [if_pos (by omega)]
  have hn : ((l.length : Int) - 1 - 1).toNat = l.length - 2 := by omega
  rw [hn]
  refine wpC_inv (fun i acc ρ => ρ = [.val (.lst (tvs l)), .emp] ∧ acc = (((List.range i).filter (cnd l)).map fun i : Nat => (1 + (i : Int))).map .int ∧ acc.length ≤ i) ⟨rfl, rfl, by simp⟩ ?_ ?_
  · rintro i p acc ρ e ⟨rfl, rfl, ha⟩
    obtain ⟨hi, rfl⟩ := rangeP_get e
    have a0 : atI (tvs l) (1 + (i : Int)) = some (tv (l.getD (i + 1) (true, 0))) := by rw [show (1 + (i : Int)) = ((i + 1 : Nat) : Int) by omega]; exact at_tvs (by omega)
    have a1 : atI (tvs l) (1 + (i : Int) - 1) = some (tv (l.getD i (true, 0))) := by rw [show (1 + (i : Int) - 1) = ((i : Nat) : Int) by omega]; exact at_tvs (by omega)
    have a2 : atI (tvs l) (1 + (i : Int) + 1) = some (tv (l.getD (i + 2) (true, 0))) := by rw [show (1 + (i : Int) + 1) = ((i + 2 : Nat) : Int) by omega]; exact at_tvs (by omega)
    simp_arith only [a0, a1, a2]
    have hz := szl (Nat.le_trans ha (show i ≤ 1000000 by omega))
    have hcc : ((l.getD (i + 1) (true, 0)).2 ≤ min (l.getD i (true, 0)).2 (l.getD (i + 2) (true, 0)).2) ↔ cnd l i = true := by simp [cnd, gd]
    by_cases hc : cnd l i = true
    · rw [if_pos (hcc.mpr hc), hz]
      refine ⟨trivial, ?_, by simp at ha ⊢; omega⟩
      rw [List.range_succ, List.filter_append]
      simp [hc]
    · rw [if_neg (fun z => hc (hcc.mp z))]
      refine ⟨?_, by omega⟩
      rw [List.range_succ, List.filter_append]
      simp [hc]
  · rintro acc ρ ⟨rfl, rfl, _⟩
    simp [rangeP, fgs, ivs]
/-- a first place that may go -/
theorem fgs_cases (l : List T) : (fgs l = [] ∧ ∀ i, i + 2 < l.length → cnd l i = false) ∨ ∃ i r, i + 2 < l.length ∧ cnd l i = true ∧ fgs l = (1 + (i : Int)) :: r := by
  unfold fgs
  cases e : (List.range (l.length - 2)).filter (cnd l) with
  | nil =>
    refine .inl ⟨rfl, fun i hi => ?_⟩
    have := List.filter_eq_nil_iff.mp e i (by simp; omega)
    simpa using this
  | cons i r =>
    have hm : i ∈ (List.range (l.length - 2)).filter (cnd l) := by rw [e]; simp
    rw [List.mem_filter, List.mem_range] at hm
    exact .inr ⟨i, _, by omega, hm.2, rfl⟩
theorem red_of : ∀ {l : List T}, (∀ i, i + 2 < l.length → cnd l i = false) → Red l
  | [], _ => trivial
  | [a], _ => trivial
  | [a, b], _ => trivial
  | a :: b :: c :: r, h => by
    refine ⟨?_, red_of (l := b :: c :: r) fun i hi => ?_⟩
    · have := h 0 (by simp)
      simp only [cnd, gd, decide_eq_false_iff_not] at this
      rw [Int.min_comm]
      simpa using this
    · have := h (i + 1) (by simp at hi ⊢; omega)
      simpa [cnd, gd] using this
/-- parted at a place -/
theorem part3 {l : List T} {i : Nat} (h : i + 2 < l.length) : l = l.take i ++ [l.getD i (true, 0), l.getD (i + 1) (true, 0), l.getD (i + 2) (true, 0)] ++ l.drop (i + 3) := by
  have g : ∀ j, j < l.length → l.drop j = l.getD j (true, 0) :: l.drop (j + 1) := fun j hj => by
    rw [List.drop_eq_getElem_cons hj]; simp [List.getD, hj]
  conv => lhs; rw [← List.take_append_drop i l, g i (by omega), g (i + 1) (by omega), g (i + 2) (by omega)]
  simp
theorem Alt.three : ∀ {p s : List T} {a b c : T} {m : Int}, Alt (p ++ [a, b, c] ++ s) → Alt (p ++ [(a.1, m)] ++ s)
  | [], s, a, b, c, m, h => by
    have h1 : a.1 = !b.1 := h.1
    have h2 : b.1 = !c.1 := h.2.1
    have h3 : Alt (c :: s) := h.2.2
    have ec : c.1 = a.1 := by rw [h1, h2]; simp
    match s, h3 with
    | [], _ => trivial
    | d :: s, h3 => exact ⟨by rw [← ec]; exact h3.1, h3.2⟩
  | [x], s, a, b, c, m, h => ⟨h.1, Alt.three (p := []) h.2⟩
  | x :: y :: p, s, a, b, c, m, h => ⟨h.1, Alt.three (p := y :: p) h.2⟩
theorem Alt.mid : ∀ {p s : List T} {a b c : T}, Alt (p ++ [a, b, c] ++ s) → a.1 = (!b.1) ∧ b.1 = (!c.1)
  | [], s, a, b, c, h => ⟨h.1, h.2.1⟩
  | [x], s, a, b, c, h => ⟨h.2.1, h.2.2.1⟩
  | x :: y :: p, s, a, b, c, h => Alt.mid (p := y :: p) h.2
structure Lf (ts l : List T) : Prop where
  alt : Alt l
  ps : Ps l
  sim : Sim l ts
theorem Lf.step {ts l : List T} {i : Nat} (h : Lf ts l) (hi : i + 2 < l.length) (hc : cnd l i = true) :
    Lf ts (l.take i ++ [((l.getD i (true, 0)).1, (l.getD i (true, 0)).2 - (l.getD (i + 1) (true, 0)).2 + (l.getD (i + 2) (true, 0)).2)] ++ l.drop (i + 3)) := by
  have e := part3 hi
  have ha := h.alt
  have hp := h.ps
  have hs := h.sim
  have hc' : (l.getD (i + 1) (true, 0)).2 ≤ min (l.getD i (true, 0)).2 (l.getD (i + 2) (true, 0)).2 := by simpa [cnd, gd] using hc
  rw [e] at ha hp hs
  generalize l.take i = p at ha hp hs ⊢
  generalize l.drop (i + 3) = s at ha hp hs ⊢
  generalize l.getD i (true, 0) = a at ha hp hs hc' ⊢
  generalize l.getD (i + 1) (true, 0) = b at ha hp hs hc' ⊢
  generalize l.getD (i + 2) (true, 0) = c at ha hp hs hc' ⊢
  have hc2 := Int.le_min.mp hc'
  have pa : 0 < a.2 := hp a (by simp)
  have pb : 0 < b.2 := hp b (by simp)
  have pc : 0 < c.2 := hp c (by simp)
  have pp : Ps p := hp.l.l
  have pss : Ps s := hp.r
  obtain ⟨m1, m2⟩ := ha.mid
  have s3 : Sim [(a.1, a.2 - b.2 + c.2)] [a, b, c] := fun l hl => by
    obtain ⟨aw, am⟩ := a
    obtain ⟨bw, bm⟩ := b
    obtain ⟨cw, cm⟩ := c
    simp only at m1 m2 pb hc2 ⊢
    have eb : bw = !aw := by rw [m1]; simp
    have ec : cw = aw := by rw [m1, m2]; simp
    subst eb ec
    exact (stack_act.three hl pb hc2.1 hc2.2).symm
  have p3 : Ps [a, b, c] := Ps.cons pa (Ps.cons pb (Ps.cons pc Ps.nil))
  refine ⟨ha.three, Ps.app (Ps.app pp (Ps.cons (by show 0 < a.2 - b.2 + c.2; omega) Ps.nil)) pss, ?_⟩
  exact (Sim.app (Sim.app (Sim.refl p) s3 pp) (Sim.refl s) (Ps.app pp p3)).trans hs
theorem jnF_alt : ∀ (ts l : List T), Alt l → Alt (ts.foldl jnR l)
  | [], l, h => h
  | t :: ts, l, h => by
    refine jnF_alt ts _ ?_
    match l, h with
    | [], _ => exact trivial
    | a :: r, h =>
      show Alt (if a.1 = t.1 then (t.1, t.2 + a.2) :: r else t :: a :: r)
      by_cases c : a.1 = t.1
      · rw [if_pos c]
        match r, h with
        | [], _ => exact trivial
        | b :: r, h => exact ⟨by show t.1 = _; rw [← c]; exact h.1, h.2⟩
      · rw [if_neg c]
        refine ⟨?_, h⟩
        cases h1 : a.1 <;> cases h2 : t.1 <;> simp_all
theorem jn_sim {ts : List T} (h : Ps ts) : Sim (jn ts) ts := fun l hl => stack_act.jn hl h
theorem jn_lf {ts : List T} (h : Ps ts) : Lf ts (jn ts) := ⟨(jnF_alt ts [] trivial).rev, jn_Ps h, jn_sim h⟩
theorem Lf.fg {ts l : List T} (h : Lf ts l) (hr : Red l) : l = Ev.fg ts := by
  rw [← h.sim.fg]
  exact (fg_St ⟨h.alt, h.ps, hr⟩).symm
theorem cutL {xs : List PV} (lo hi : Option Nat) : pvCut (.lst xs) (lo.map fun (n : Nat) => (n : Int)) (hi.map fun (n : Nat) => (n : Int)) = some (.lst ((xs.drop (min (lo.getD 0) xs.length)).take (min (hi.getD xs.length) xs.length - min (lo.getD 0) xs.length))) := by
  have s0 : ∀ (o : Option Nat) (d : Nat), HT.sIx xs.length d (o.map fun (n : Nat) => (n : Int)) = match o with | some k => min k xs.length | none => d := fun o d => by
    cases o with
    | none => rfl
    | some k => exact HT.sIx_nat _ _ k
  show some (PV.lst (cutP xs _ _)) = _
  congr 2
  unfold cutP
  rw [s0, s0]
  cases lo <;> cases hi <;> simp
theorem left_ok (ts : List T) (hl : ts.length ≤ 900) (hp : Ps ts) : f__law_left [.lst (tvs ts)] = .ok (.lst (tvs (fg ts))) := by
  have lj : (jn ts).length ≤ 900 := by have := jn_len ts []; simp at this; unfold jn; simp; omega
  rw [wpP_eq]
  simp_arith only [f__law_left, c__law_left, ljoined_ok ts hl]
  refine ws_whileInv (fun k ρ => ∃ (l : List T) (x2 x3 x4 x5 x6 x7 x8 : Slot), k = l.length ∧ l.length ≤ 900 ∧ Lf ts l ∧ ρ = [.val (.lst (tvs ts)), .val (.lst (tvs l)), x2, x3, x4, x5, x6, x7, x8]) ?_ (jn ts).length _ ⟨jn ts, _, _, _, _, _, _, _, rfl, lj, jn_lf hp, rfl⟩
  rintro k ρ ⟨l, x2, x3, x4, x5, x6, x7, x8, rfl, hl, lf, rfl⟩
  have sp := spots_ok l hl
  have nn : (PV.lst []) = ivs [] := rfl
  rcases fgs_cases l with ⟨e, hr⟩ | ⟨i, r, hi, hc, e⟩
  · rw [e] at sp
    have ne : pvNe (ivs []) (.lst []) = some (.bl false) := by rw [nn, ne_ints]; rfl
    simp_arith only [sp, ne]
    rw [lf.fg (red_of hr)]
  · rw [e] at sp
    have ne : pvNe (ivs ((1 + (i : Int)) :: r)) (.lst []) = some (.bl true) := by rw [nn, ne_ints]; simp
    have i0 : pvIx (ivs ((1 + (i : Int)) :: r)) (.int 0) = some (.int (1 + (i : Int))) := by
      unfold ivs
      rw [List.map_cons, ix_l, at_0]
    have e1 : (1 + (i : Int)) - 1 = ((i : Nat) : Int) := by omega
    have e2 : (1 + (i : Int)) + 2 = ((i + 3 : Nat) : Int) := by omega
    have tl : (tvs l).length = l.length := tvs_length l
    have td : ∀ n, (tvs l).drop n = tvs (l.drop n) := fun n => by simp [tvs]
    have tt : ∀ n, (tvs l).take n = tvs (l.take n) := fun n => by simp [tvs]
    have c1 : pvCut (.lst (tvs l)) (some ((i : Nat) : Int)) (some ((i + 3 : Nat) : Int)) = some (.lst [tv (l.getD i (true, 0)), tv (l.getD (i + 1) (true, 0)), tv (l.getD (i + 2) (true, 0))]) := by
      have := cutL (xs := tvs l) (some i) (some (i + 3))
      rw [show ((some (i + 3) : Option Nat).map fun (n : Nat) => (n : Int)) = some ((i + 3 : Nat) : Int) from rfl] at this
      rw [show (some i : Option Nat).map (fun (n : Nat) => (n : Int)) = some ((i : Nat) : Int) from rfl] at this
      rw [this]
      simp only [Option.getD_some, tl]
      rw [Nat.min_eq_left (by omega), Nat.min_eq_left (by omega), td]
      have g : ∀ j, j < l.length → l.drop j = l.getD j (true, 0) :: l.drop (j + 1) := fun j hj => by
        rw [List.drop_eq_getElem_cons hj]; simp [List.getD, hj]
      rw [g i (by omega), g (i + 1) (by omega), g (i + 2) (by omega), show i + 3 - i = 3 by omega]
      simp [tvs]
    have c2 : pvCut (.lst (tvs l)) none (some ((i : Nat) : Int)) = some (.lst (tvs (l.take i))) := by
      have := cutL (xs := tvs l) none (some i)
      rw [show (some i : Option Nat).map (fun (n : Nat) => (n : Int)) = some ((i : Nat) : Int) from rfl] at this
      rw [show (none : Option Nat).map (fun (n : Nat) => (n : Int)) = none from rfl] at this
      rw [this]
      simp only [Option.getD_some, Option.getD_none, tl]
      rw [Nat.min_eq_left (by omega), Nat.min_eq_left (by omega), List.drop_zero, Nat.sub_zero, tt]
    have c3 : pvCut (.lst (tvs l)) (some ((i + 3 : Nat) : Int)) none = some (.lst (tvs (l.drop (i + 3)))) := by
      have := cutL (xs := tvs l) (some (i + 3)) none
      rw [show ((some (i + 3) : Option Nat).map fun (n : Nat) => (n : Int)) = some ((i + 3 : Nat) : Int) from rfl] at this
      rw [show (none : Option Nat).map (fun (n : Nat) => (n : Int)) = none from rfl] at this
      rw [this]
      simp only [Option.getD_some, Option.getD_none, tl, Nat.min_self]
      rw [Nat.min_eq_left (show i + 3 ≤ l.length by omega), td, List.take_of_length_le (by simp [tvs])]
    have st := lf.step hi hc
    have nl : (l.take i ++ [((l.getD i (true, 0)).1, (l.getD i (true, 0)).2 - (l.getD (i + 1) (true, 0)).2 + (l.getD (i + 2) (true, 0)).2)] ++ l.drop (i + 3)).length = l.length - 2 := by simp; omega
    generalize l.getD i (true, 0) = a at c1 st nl
    generalize l.getD (i + 1) (true, 0) = b at c1 st nl
    generalize l.getD (i + 2) (true, 0) = c at c1 st nl
    have ap1 : tvs (l.take i) ++ [tv (a.1, a.2 - b.2 + c.2)] = tvs (l.take i ++ [(a.1, a.2 - b.2 + c.2)]) := by simp [tvs]
    have z1 : ((tvs (l.take i)).length + 1 ≤ sizeLine) = True := sze (by rw [tvs_length]; simp; omega)
    have z2 : ((tvs (l.take i ++ [(a.1, a.2 - b.2 + c.2)])).length + (tvs (l.drop (i + 3))).length ≤ sizeLine) = True := sze (by rw [tvs_length, tvs_length]; simp; omega)
    simp_arith only [sp, ne, i0, e1, e2, c1, c2, c3, z1, ap1, z2, tvs_app]
    exact ⟨_, by omega, _, _, _, _, _, _, _, _, rfl, by omega, st, rfl⟩
end Ev

set_option maxHeartbeats 2000000
set_option linter.all false
set_option Elab.async false
set_option maxRecDepth 100000
namespace Ev
open PySem L2
local macro_rules | `(tactic| simp_arith only [$ls,*]) => `(tactic| simp -implicitDefEqProofs only [Nat.reduceSub, Nat.reduceAdd, Int.reduceLT, Int.reduceLE, Int.reduceGT, Int.reduceGE, Int.reduceEq, Int.reducePow, Nat.reducePow, Nat.reduceMul, Int.reduceNeg, Int.reduceToNat, Int.reduceAbs, Int.reduceMod, Int.reduceDiv, Int.reduceAdd, Int.reduceSub, Int.reduceMul, Nat.reduceLT, Nat.reduceLeDiff, Nat.reduceEqDiff, decide_eq_true_eq, decide_true, decide_false, and_true, true_and, true_or, or_true, false_or, or_false, and_false, false_and, if_false, ite_true, ite_false, PV.int.injEq, PV.bl.injEq, exists_eq_left', Bool.not_true, Bool.not_false, Bool.false_eq_true, not_true_eq_false, not_false_eq_true, reduceCtorEq, Option.some.injEq, wp_ok, wp_exc, wp_bad, wo_some, wo_none, wo_if, wo_map, wo_bind, wp_of, ws_nx, ws_rt, ws_rf, ws_bk, ws_ct, ws_exc, ws_bad, wp_name, wp_c, wp_m2, wp_m1, wp_test, wp_truthN, wp_sumN, wp_lenN, wp_ixN, wp_and, wp_or, wp_notT, wp_andV, wp_orV, wp_notV, wp_if, wp_ifF, wp_args0, wp_args1, wp_tup, wp_frz, wp_callB, wp_callF, wp_cat, wp_repL, wp_chain, wp_cut, wp_part0, wp_part1, wp_call, wp_callFr, wp_callBx, wp_popN, wp_index, wp_yes, wp_seqI, wp_range, wp_revI, wp_zip, wp_zipB, wp_zipS, wp_enum, wp_zip3, wp_enZ, wp_callK, wp_callKF, wp_callBxF, wp_cps0, wp_cps1, wp_cpv, wp_cpf, ws_parG, ws_seq, ws_nil, ws_never, ws_pass, ws_ret, ws_retF, ws_retN, ws_set, ws_setF, ws_if, ws_asg, ws_par, ws_par3, ws_parF, ws_aug, ws_append, ws_setIx, ws_reverse, ws_clear, ws_extend, ws_popAt, ws_insert, wp_cmpN, wp_callBr, wpP_runP, wpF_runF, wpB_runB, wpP_ok, wpF_ok, wpP_exc, wpB_ok, ws_for', ws_forNil, wp_comp, wpC_nil, ev_g0, ev_gs, ev_gn, ev_s0, ev_ss, ev_m0, ev_m1, ev_a0, ev_a1, ev_r0, ev_rs, ev_l0, ev_l1, ev_d0, ev_d1, ev_ob, ev_om, ev_it, ev_if, ev_gl, ev_gl1, ev_dl, ev_dl1, ev_gla, ev_dla, add_ii, addI_ii, sub_ii, add_ll, add_tt, mod_ii, div_ii, pow_ii, mul_ii, mul_li, lt_ii, le_ii, gt_ii, ge_ii, neg_i, eq_ii, ne_ii, eq_bb, ne_bb, xor_f, xor_t, eq_str, ne_str, is_bb, isnot_bb, is_n, is_in, is_sn, is_bn, is_tn, is_ln, isnot_n, isnot_in, truth_b, truth_i, truth_l, truth_t, len_l, len_t, len_s, ix_l, ix_t, ix_s, seq_l, seq_t, seq_s, tuple_l, tuple_t, list_l, list_t, list_s, on1_p, abs_i, int_b, int_i, max_ii, min_ii, max1_l, min1_l, rev_l, rev_t, zip_ll, zip_tt, cat_ll, range_1, range_2, slot_0, slot_s, zip3_lll, zip3_llt, zip3_ltl, zip3_ltt, zip3_tll, zip3_tlt, zip3_ttl, zip3_ttt, zipB_ll, zipB_tt, zipB_lt, zipB_tl, zipS_ll, zipS_tt, zipS_lt, zipS_tl, omap_en, enum_l, enum_t, down_l, down_t, down_t0, setAll_0, setAll_1, atom_n, atom_b, atom_i, atom_s, permP_0, permP_1, getD_0, getD_s, isi_int_i, isi_int_b, isi_bool_i, isi_bool_b, isi_tup_t, isi_tup_l, isi_lst_l, isi_lst_t, isi_str_s, isi_str_i, isi_str_b, isi_str_n, isi_lt_l, isi_lt_t, isi_lt_i, isi_lt_b, isi_lt_s, isi_lt_n, at_0, at_1, at_2, at_3, at_last, mg_name, mg_tup, mg_lst, mg_nil, mg_cons, own0_own, startR_eq, wipe_0, wipe_1, back_0, back_1, ixN_3_0, ixN_3_1, ixN_3_2, szl, sze, wp_dict, eq_ints, eq_ww, eq_wf, sq_t, sq_f, ix_sq, len_sq, tuple_sq, list_sq, seq_sq, revI_sq, mg_sq, zipS_sq, zipS_st, zipS_ts, zipB_sq, zipB_st, zipB_ts, eq_fm, eq_fmr, iv_len, wvs_len, isring_ok, bins_ok, gates_ok, behind_ok, ahead_ok, out_ok, eq_iv, ne_iv, ix_tv0, ix_tv1, tv_mk, mg_tv, tuple_tv, in_ww, isi_tv, len_tv, eq_tvs, dix_w, lnv_0, lnv_1, sum_iv, wp_dictE, enum_sq, sides_ok, sum_sqi, $ls,*])
/-! the lesser, the greater of two standings -/
def lg (f : Int → Int) (L : Ln) (a b : List Int) : List Int := bc L a ((bw L a b).map f)
abbrev lo0 (x : Int) : Int := min 0 x
abbrev hi0 (x : Int) : Int := max 0 x
section
variable {t t' t1 t2 : Bool} {L : Ln} {a b c x y : List Int} {f : Int → Int}
@[simp] theorem lg_len : (lg f L a b).length = L.rooms.length := by simp [lg]
theorem bwf_getD {j : Nat} (h : j < L.ng) : ((bw L a b).map f).getD j 0 = f (zt a b j) := by
  unfold bw
  rw [List.map_map, getD_range h]
  rfl
theorem zt_end (hw : Tw L a b) (hr : L.ring = true) : zt a b L.rooms.length = 0 := by
  have := hw.s hr
  unfold zt
  rw [List.take_of_length_le (by rw [hw.a]; exact Nat.le_refl _), List.take_of_length_le (by rw [hw.b]; exact Nat.le_refl _)]
  omega
theorem lg_getD (hw : Tw L a b) (hn : 0 < L.rooms.length) (hf : f 0 = 0) {j : Nat} (hj : j < L.rooms.length) : (lg f L a b).getD j 0 = a.getD j 0 + f (zt a b j) - f (zt a b (j + 1)) := by
  have hg := ng_ge (L := L)
  unfold lg
  rw [bc_getD hj, bwf_getD (by omega), bwf_getD (go_lt hn hj)]
  cases hr : L.ring with
  | false =>
    rw [show L.go j = j + 1 by simp [Ln.go, hr]]
  | true =>
    by_cases c : j + 1 < L.rooms.length
    · rw [show L.go j = j + 1 by simp [Ln.go, hr]; exact Nat.mod_eq_of_lt c]
    · have e : j + 1 = L.rooms.length := by omega
      rw [show L.go j = 0 by simp [Ln.go, hr, e], e, zt_end hw hr, zt_0]
theorem lg_zt' (hw : Tw L a b) (hn : 0 < L.rooms.length) (hf : f 0 = 0) : ∀ j, j ≤ L.rooms.length → zt a (lg f L a b) j = f (zt a b j)
  | 0, _ => by rw [zt_0, zt_0, hf]
  | j + 1, h => by
    have ih := lg_zt' hw hn hf j (by omega)
    rw [zt_succ (by rw [hw.a]; omega) (by rw [lg_len]; omega), lg_getD hw hn hf (by omega), ih]
    omega
theorem lg_zt (hw : Tw L a b) (hn : 0 < L.rooms.length) (hf : f 0 = 0) {j : Nat} (hj : j < L.ng) : zt a (lg f L a b) j = f (zt a b j) :=
  lg_zt' hw hn hf j (by have := ng_pre L; omega)
theorem lg_tw (hw : Tw L a b) (hn : 0 < L.rooms.length) (hf : f 0 = 0) : Tw L a (lg f L a b) := ⟨hw.a, lg_len, fun hr => by
  have h := lg_zt' hw hn hf _ (Nat.le_refl _)
  rw [zt_end hw hr, hf] at h
  unfold zt at h
  rw [List.take_of_length_le (by rw [hw.a]; exact Nat.le_refl _), List.take_of_length_le (by rw [lg_len]; exact Nat.le_refl _)] at h
  omega⟩
theorem zt_tri (j : Nat) : zt x y j = zt a y j - zt a x j := by unfold zt; omega
theorem eq3 (hn : 0 < L.rooms.length) (hx : Tw L a x) (hy : Tw L a y) (h : ∀ j, j < L.ng → zt a x j = zt a y j) : x = y :=
  eq_of_zt (hx.symm.trans hy) hn fun j hj => by rw [zt_tri (a := a), h j hj]; omega
theorem fu_of (h0 : 0 < L.ng) (h : ∀ j, j < L.ng → 0 ≤ zt a b j) : fu L a b = true := by
  obtain ⟨j, hj, e⟩ := (ext_of (a := a) (b := b) h0).l
  unfold fu
  rw [e]
  simpa using h j hj
theorem of_fu (h0 : 0 < L.ng) (h : fu L a b = true) {j : Nat} (hj : j < L.ng) : 0 ≤ zt a b j := by
  have := (ext_of (a := a) (b := b) h0).ll j hj
  unfold fu at h
  simp only [decide_eq_true_eq] at h
  omega
theorem lg_sok (hw : Tw L a b) (hn : 0 < L.rooms.length) (hf : f = lo0 ∨ f = hi0) (hA : SOk L a) (hB : SOk L b) : SOk L (lg f L a b) := ⟨lg_len, fun j hj => by
  have h0 : f 0 = 0 := by rcases hf with rfl | rfl <;> simp
  have h1 := hA.2 j hj
  have h2 := hB.2 j hj
  have h3 := zt_succ (a := a) (b := b) (j := j) (by rw [hw.a]; omega) (by rw [hw.b]; omega)
  rw [lg_getD hw hn h0 hj]
  rcases hf with rfl | rfl
  · simp only [lo0]; omega
  · simp only [hi0]; omega⟩
theorem fit0 (hn : 0 < L.rooms.length) (hm : L.rooms.length ≤ 900) (ha : a.length = L.rooms.length) : Fit L (List.replicate L.ng none) a := ⟨hn, hm, ha, by simp⟩
theorem lesser_ok (hn : 0 < L.rooms.length) (hm : L.rooms.length ≤ 900) (hw : Tw L a b) : f_lesser [lnv t t' L, sq t1 (iv a), sq t2 (iv b)] = .ok (.tup (iv (lg lo0 L a b))) := by
  have hng := ng_le L hm
  have hb := bc_ok (t := t) (t' := t') (t2 := t1) (t3 := false) (cs := (bw L a b).map lo0) (fit0 hn hm hw.a) (by simp)
  rw [wpP_eq]
  simp_arith only [f_lesser, c_lesser, between_ok (t := t) (t' := t') (t1 := t1) (t2 := t2) hm hw]
  refine wpC_list (l := bw L a b) (f := PV.int) (fun x => .int (lo0 x)) (by simp; omega) (fun x _ => ?_) ?_
  · simp_arith only []
  · have e : (bw L a b).map (fun x => PV.int (lo0 x)) = iv ((bw L a b).map lo0) := by simp [iv, Function.comp_def]
    rw [e]
    rw [sq_f] at hb
    simp_arith only [hb]
    rfl
theorem greater_ok (hn : 0 < L.rooms.length) (hm : L.rooms.length ≤ 900) (hw : Tw L a b) : f_greater [lnv t t' L, sq t1 (iv a), sq t2 (iv b)] = .ok (.tup (iv (lg hi0 L a b))) := by
  have hng := ng_le L hm
  have hb := bc_ok (t := t) (t' := t') (t2 := t1) (t3 := false) (cs := (bw L a b).map hi0) (fit0 hn hm hw.a) (by simp)
  rw [wpP_eq]
  simp_arith only [f_greater, c_greater, between_ok (t := t) (t' := t') (t1 := t1) (t2 := t2) hm hw]
  refine wpC_list (l := bw L a b) (f := PV.int) (fun x => .int (hi0 x)) (by simp; omega) (fun x _ => ?_) ?_
  · simp_arith only []
  · have e : (bw L a b).map (fun x => PV.int (hi0 x)) = iv ((bw L a b).map hi0) := by simp [iv, Function.comp_def]
    rw [e]
    rw [sq_f] at hb
    simp_arith only [hb]
    rfl
/-! what holds of them -/
variable (hn : 0 < L.rooms.length)
include hn
theorem lg_self (ha : a.length = L.rooms.length) (hf : f 0 = 0) : lg f L a a = a :=
  eq3 hn (lg_tw (Tw.refl ha) hn hf) (Tw.refl ha) fun j hj => by rw [lg_zt (Tw.refl ha) hn hf hj, zt_self, hf]
theorem lo_fu (hw : Tw L a b) (h : fu L a b = true) : lg lo0 L a b = a :=
  eq3 hn (lg_tw hw hn rfl) (Tw.refl hw.a) fun j hj => by
    have := of_fu (Nat.lt_of_lt_of_le hn ng_ge) h hj
    rw [lg_zt hw hn rfl hj, zt_self]; simp only [lo0]; omega
theorem hi_fu (hw : Tw L a b) (h : fu L a b = true) : lg hi0 L a b = b :=
  eq3 hn (lg_tw hw hn rfl) hw fun j hj => by
    have := of_fu (Nat.lt_of_lt_of_le hn ng_ge) h hj
    rw [lg_zt hw hn rfl hj]; simp only [hi0]; omega
theorem lo_uf (hw : Tw L a b) (h : fu L b a = true) : lg lo0 L a b = b :=
  eq3 hn (lg_tw hw hn rfl) hw fun j hj => by
    have := of_fu (Nat.lt_of_lt_of_le hn ng_ge) h hj
    rw [zt_neg] at this
    rw [lg_zt hw hn rfl hj]; simp only [lo0]; omega
theorem hi_uf (hw : Tw L a b) (h : fu L b a = true) : lg hi0 L a b = a :=
  eq3 hn (lg_tw hw hn rfl) (Tw.refl hw.a) fun j hj => by
    have := of_fu (Nat.lt_of_lt_of_le hn ng_ge) h hj
    rw [zt_neg] at this
    rw [lg_zt hw hn rfl hj, zt_self]; simp only [hi0]; omega
theorem fu_fl (hw : Tw L a b) : fu L (lg lo0 L a b) a = true := fu_of (Nat.lt_of_lt_of_le hn ng_ge) fun j hj => by
  rw [zt_neg, lg_zt hw hn rfl hj]; simp only [lo0]; omega
theorem fu_fg (hw : Tw L a b) : fu L a (lg hi0 L a b) = true := fu_of (Nat.lt_of_lt_of_le hn ng_ge) fun j hj => by
  rw [lg_zt hw hn rfl hj]; simp only [hi0]; omega
theorem fu_flb (hw : Tw L a b) : fu L (lg lo0 L a b) b = true := fu_of (Nat.lt_of_lt_of_le hn ng_ge) fun j hj => by
  rw [zt_tri (a := a), lg_zt hw hn rfl hj]; simp only [lo0]; omega
theorem fu_fgb (hw : Tw L a b) : fu L b (lg hi0 L a b) = true := fu_of (Nat.lt_of_lt_of_le hn ng_ge) fun j hj => by
  rw [zt_tri (a := a), lg_zt hw hn rfl hj]; simp only [hi0]; omega
theorem lg_bw (hw : Tw L a b) (hf : f 0 = 0) : bw L a (lg f L a b) = (bw L a b).map f := by
  unfold bw
  rw [List.map_map]
  exact List.map_congr_left fun j hj => lg_zt hw hn hf (by simpa using hj)
end
/-- the text of a line and two standings -/
theorem repr_two {m : Nat} {L : Ln} {a b : List Int} (hm : m ≤ 9) (hL : LOk m L) (hA : SOk L a) (hB : SOk L b) : ∃ z, pvRepr (.lst [lnv true true L, .tup (iv a), .tup (iv b)]) = some (.str z) := by
  have hle := hL.le
  refine repr_lst (b := (38476 + 2) * 3 + 4) ?_ (Shw.lst (b := 38476) (n := 3) (fun x hx => ?_) (by simp)) (by omega)
  · have h1 := okD_lnv 8 L
    have h2 := okD_iv 9 a
    have h3 := okD_iv 9 b
    show ([lnv true true L, .tup (iv a), .tup (iv b)].all (okD 11)) = true
    simp only [List.all_cons, List.all_nil, Bool.and_true, Bool.and_eq_true]
    exact ⟨h1, h2, h3⟩
  · simp at hx
    rcases hx with rfl | rfl | rfl
    · exact (Shw.lnv (n := 10) hL.small (by omega) (by omega)).mono (by omega)
    · exact (Shw.iv (n := 10) (SOk.small hL hA) (by rw [hA.1]; omega)).mono (by omega)
    · exact (Shw.iv (n := 10) (SOk.small hL hB) (by rw [hB.1]; omega)).mono (by omega)
end Ev

set_option maxHeartbeats 2000000
set_option linter.all false
set_option Elab.async false
set_option maxRecDepth 100000
namespace Ev
open PySem L2
local macro_rules | `(tactic| simp_arith only [$ls,*]) => `(tactic| simp -implicitDefEqProofs only [Nat.reduceSub, Nat.reduceAdd, Int.reduceLT, Int.reduceLE, Int.reduceGT, Int.reduceGE, Int.reduceEq, Int.reducePow, Nat.reducePow, Nat.reduceMul, Int.reduceNeg, Int.reduceToNat, Int.reduceAbs, Int.reduceMod, Int.reduceDiv, Int.reduceAdd, Int.reduceSub, Int.reduceMul, Nat.reduceLT, Nat.reduceLeDiff, Nat.reduceEqDiff, decide_eq_true_eq, decide_true, decide_false, and_true, true_and, true_or, or_true, false_or, or_false, and_false, false_and, if_false, ite_true, ite_false, PV.int.injEq, PV.bl.injEq, exists_eq_left', Bool.not_true, Bool.not_false, Bool.false_eq_true, not_true_eq_false, not_false_eq_true, reduceCtorEq, Option.some.injEq, wp_ok, wp_exc, wp_bad, wo_some, wo_none, wo_if, wo_map, wo_bind, wp_of, ws_nx, ws_rt, ws_rf, ws_bk, ws_ct, ws_exc, ws_bad, wp_name, wp_c, wp_m2, wp_m1, wp_test, wp_truthN, wp_sumN, wp_lenN, wp_ixN, wp_and, wp_or, wp_notT, wp_andV, wp_orV, wp_notV, wp_if, wp_ifF, wp_args0, wp_args1, wp_tup, wp_frz, wp_callB, wp_callF, wp_cat, wp_repL, wp_chain, wp_cut, wp_part0, wp_part1, wp_call, wp_callFr, wp_callBx, wp_popN, wp_index, wp_yes, wp_seqI, wp_range, wp_revI, wp_zip, wp_zipB, wp_zipS, wp_enum, wp_zip3, wp_enZ, wp_callK, wp_callKF, wp_callBxF, wp_cps0, wp_cps1, wp_cpv, wp_cpf, ws_parG, ws_seq, ws_nil, ws_never, ws_pass, ws_ret, ws_retF, ws_retN, ws_set, ws_setF, ws_if, ws_asg, ws_par, ws_par3, ws_parF, ws_aug, ws_append, ws_setIx, ws_reverse, ws_clear, ws_extend, ws_popAt, ws_insert, wp_cmpN, wp_callBr, wpP_runP, wpF_runF, wpB_runB, wpP_ok, wpF_ok, wpP_exc, wpB_ok, ws_for', ws_forNil, wp_comp, wpC_nil, ev_g0, ev_gs, ev_gn, ev_s0, ev_ss, ev_m0, ev_m1, ev_a0, ev_a1, ev_r0, ev_rs, ev_l0, ev_l1, ev_d0, ev_d1, ev_ob, ev_om, ev_it, ev_if, ev_gl, ev_gl1, ev_dl, ev_dl1, ev_gla, ev_dla, add_ii, addI_ii, sub_ii, add_ll, add_tt, mod_ii, div_ii, pow_ii, mul_ii, mul_li, lt_ii, le_ii, gt_ii, ge_ii, neg_i, eq_ii, ne_ii, eq_bb, ne_bb, xor_f, xor_t, eq_str, ne_str, is_bb, isnot_bb, is_n, is_in, is_sn, is_bn, is_tn, is_ln, isnot_n, isnot_in, truth_b, truth_i, truth_l, truth_t, len_l, len_t, len_s, ix_l, ix_t, ix_s, seq_l, seq_t, seq_s, tuple_l, tuple_t, list_l, list_t, list_s, on1_p, abs_i, int_b, int_i, max_ii, min_ii, max1_l, min1_l, rev_l, rev_t, zip_ll, zip_tt, cat_ll, range_1, range_2, slot_0, slot_s, zip3_lll, zip3_llt, zip3_ltl, zip3_ltt, zip3_tll, zip3_tlt, zip3_ttl, zip3_ttt, zipB_ll, zipB_tt, zipB_lt, zipB_tl, zipS_ll, zipS_tt, zipS_lt, zipS_tl, omap_en, enum_l, enum_t, down_l, down_t, down_t0, setAll_0, setAll_1, atom_n, atom_b, atom_i, atom_s, permP_0, permP_1, getD_0, getD_s, isi_int_i, isi_int_b, isi_bool_i, isi_bool_b, isi_tup_t, isi_tup_l, isi_lst_l, isi_lst_t, isi_str_s, isi_str_i, isi_str_b, isi_str_n, isi_lt_l, isi_lt_t, isi_lt_i, isi_lt_b, isi_lt_s, isi_lt_n, at_0, at_1, at_2, at_3, at_last, mg_name, mg_tup, mg_lst, mg_nil, mg_cons, own0_own, startR_eq, wipe_0, wipe_1, back_0, back_1, ixN_3_0, ixN_3_1, ixN_3_2, szl, sze, wp_dict, eq_ints, eq_ww, eq_wf, sq_t, sq_f, ix_sq, len_sq, tuple_sq, list_sq, seq_sq, revI_sq, mg_sq, zipS_sq, zipS_st, zipS_ts, zipB_sq, zipB_st, zipB_ts, eq_fm, eq_fmr, iv_len, wvs_len, isring_ok, bins_ok, gates_ok, behind_ok, ahead_ok, out_ok, eq_iv, ne_iv, ix_tv0, ix_tv1, tv_mk, mg_tv, tuple_tv, in_ww, isi_tv, len_tv, eq_tvs, dix_w, lnv_0, lnv_1, sum_iv, wp_dictE, enum_sq, sides_ok, sum_sqi, $ls,*])
/-! two standings handled alike -/
section
variable {L : Ln} {s x y c d : List Int} {r : Bt} {run : List Bt}
theorem stp_mono (hn : 0 < L.rooms.length) (hx : x.length = L.ng) (hy : y.length = L.ng) (k : le L x y) : le L (stp L s x r) (stp L s y r) := by
  obtain ⟨w, ws⟩ := r
  have h := GC.one (L := L) (s := s) hn ws
  cases w with
  | true => exact (h.gc _ y (h.fl x hx) hy).mp (le_trans ((h.gc _ x (h.fl x hx) hx).mpr (le_refl _)) k)
  | false => exact (h.gc x _ hx (h.bl y hy)).mpr (le_trans k ((h.gc y _ hy (h.bl y hy)).mp (le_refl _)))
theorem cnt_mono (hn : 0 < L.rooms.length) : ∀ (run : List Bt) {x y : List Int}, x.length = L.ng → y.length = L.ng → le L x y → le L (cnt L s run x) (cnt L s run y)
  | [], _, _, _, _, k => k
  | r :: run, _, _, hx, hy, k => cnt_mono hn run (stp_len hx) (stp_len hy) (stp_mono hn hx hy k)
def ct (L : Ln) (k : Int) : List Int := List.replicate L.ng k
theorem ct_len {k : Int} : (ct L k).length = L.ng := by simp [ct]
theorem ct_getD {k : Int} {g : Nat} (hg : g < L.ng) : (ct L k).getD g 0 = k := by simp [ct, List.getD, List.getElem?_replicate, hg]
theorem bc_ct {k : Int} (hn : 0 < L.rooms.length) (hs : s.length = L.rooms.length) : bc L s (ct L k) = s := by
  refine ext_getD (d := 0) (by simp [hs]) fun j hj => ?_
  replace hj : j < L.rooms.length := by simpa using hj
  rw [bc_getD hj, ct_getD (Nat.lt_of_lt_of_le hj ng_ge), ct_getD (go_lt hn hj)]; omega
/-- as many more at each gate -/
theorem cnt_ct {k : Int} (hn : 0 < L.rooms.length) (hs : s.length = L.rooms.length) (hc : c.length = L.ng) {g : Nat} (hg : g < L.ng) : (cnt L s run (add (ct L k) c)).getD g 0 = k + (cnt L s run c).getD g 0 := by
  have h := cnt_shift (s := s) hn run (c := ct L k) (d := c) ct_len hc
  rw [bc_ct hn hs] at h
  rw [← h, add_getD (by rw [ct_len]; exact hg) (by rw [cnt_len hc]; exact hg), ct_getD hg]
theorem zt_bc' (hs : s.length = L.rooms.length) (hc : c.length = L.ng) : ∀ j, j < L.ng → j ≤ L.rooms.length → zt s (bc L s c) j = c.getD j 0 - c.getD 0 0
  | 0, _, _ => by rw [zt_0]; omega
  | j + 1, h, h2 => by
    have ih := zt_bc' hs hc j (by omega) (by omega)
    rw [zt_succ (by omega) (by rw [bc_len]; omega), bc_getD (by omega), ih]
    have e : L.go j = j + 1 := by
      unfold Ln.ng at h
      unfold Ln.go
      cases hr : L.ring with
      | false => simp
      | true =>
        simp only [hr, if_true] at h ⊢
        exact Nat.mod_eq_of_lt h
    rw [e]; omega
theorem zt_bc (hs : s.length = L.rooms.length) (hc : c.length = L.ng) {j : Nat} (hj : j < L.ng) : zt s (bc L s c) j = c.getD j 0 - c.getD 0 0 :=
  zt_bc' hs hc j hj (by have := ng_pre L; omega)
theorem bc_bw (hn : 0 < L.rooms.length) (hw : Tw L x y) : bc L x (bw L x y) = y := by
  have h : lg (fun x => x) L x y = y := eq3 hn (lg_tw hw hn rfl) hw fun j hj => lg_zt hw hn rfl hj
  unfold lg at h
  rwa [List.map_id'] at h
theorem cnt_bw (hn : 0 < L.rooms.length) (hw : Tw L x y) : add (bw L x y) (cnt L y run (zr L)) = cnt L x run (bw L x y) := by
  have := cnt_shift (s := x) hn run (c := bw L x y) (d := zr L) (by simp) zr_len
  rwa [bc_bw hn hw, add_zr (by simp)] at this
theorem bc_both (hn : 0 < L.rooms.length) (hw : Tw L x y) : bc L y (cnt L y run (zr L)) = bc L x (cnt L x run (bw L x y)) := by
  rw [← cnt_bw hn hw, ← bc_add hn (by simp) (cnt_len zr_len), bc_bw hn hw]
abbrev en (L : Ln) (x : List Int) (run : List Bt) : List Int := bc L x (cnt L x run (zr L))
theorem en_tw (hn : 0 < L.rooms.length) (hw : Tw L x y) : Tw L (en L x run) (en L y run) := ⟨by simp, by simp, fun hr => by
  rw [bc_sum hn hw.a, bc_sum hn hw.b, hr]
  have := hw.s hr
  simp only [if_true]; omega⟩
/-- what leads from the one to the other -/
theorem en_zt (hn : 0 < L.rooms.length) (hw : Tw L x y) {j : Nat} (hj : j < L.ng) : zt (en L x run) (en L y run) j = ((cnt L x run (bw L x y)).getD j 0 - (cnt L x run (zr L)).getD j 0) - ((cnt L x run (bw L x y)).getD 0 0 - (cnt L x run (zr L)).getD 0 0) := by
  rw [zt_tri (a := x), en, bc_both hn hw, zt_bc hw.a (cnt_len (by simp)) hj, zt_bc hw.a (cnt_len zr_len) hj]
  omega
theorem add_ct_zr {k : Int} : add (ct L k) (zr L) = ct L k := add_zr ct_len
theorem en_box (hn : 0 < L.rooms.length) (hw : Tw L x y) {lo hi : Int} (h1 : ∀ j, j < L.ng → lo ≤ zt x y j) (h2 : ∀ j, j < L.ng → zt x y j ≤ hi) {j : Nat} (hj : j < L.ng) :
    lo ≤ (cnt L x run (bw L x y)).getD j 0 - (cnt L x run (zr L)).getD j 0 ∧ (cnt L x run (bw L x y)).getD j 0 - (cnt L x run (zr L)).getD j 0 ≤ hi := by
  have a1 := cnt_mono (s := x) hn run (x := add (ct L lo) (zr L)) (y := bw L x y) (by rw [add_ct_zr, ct_len]) (by simp) (fun g hg => by rw [add_ct_zr, ct_getD hg, bw_getD hg]; exact h1 g hg) j hj
  have a2 := cnt_mono (s := x) hn run (x := bw L x y) (y := add (ct L hi) (zr L)) (by simp) (by rw [add_ct_zr, ct_len]) (fun g hg => by rw [add_ct_zr, ct_getD hg, bw_getD hg]; exact h2 g hg) j hj
  rw [cnt_ct hn hw.a zr_len hj] at a1 a2
  omega
/-- never further apart -/
theorem en_ap (hn : 0 < L.rooms.length) (hw : Tw L x y) : ap L (en L x run) (en L y run) ≤ ap L x y := by
  have hg : 0 < L.ng := Nat.lt_of_lt_of_le hn ng_ge
  have e := ext_of (L := L) (a := x) (b := y) hg
  obtain ⟨j1, g1, q1⟩ := (ext_of (L := L) (a := en L x run) (b := en L y run) hg).l
  obtain ⟨j2, g2, q2⟩ := (ext_of (L := L) (a := en L x run) (b := en L y run) hg).h
  rw [en_zt hn hw g1] at q1
  rw [en_zt hn hw g2] at q2
  have b1 := en_box (run := run) hn hw e.ll e.hh g1
  have b2 := en_box (run := run) hn hw e.ll e.hh g2
  unfold ap
  omega
theorem ld_en (hn : 0 < L.rooms.length) (hs : x.length = L.rooms.length) : ld L x run = (en L x run, cnt L x run (zr L)) := ld_cnt hn hs run
end
end Ev

set_option maxHeartbeats 2000000
set_option linter.all false
set_option Elab.async false
set_option maxRecDepth 100000
namespace Ev
open PySem L2
local macro_rules | `(tactic| simp_arith only [$ls,*]) => `(tactic| simp -implicitDefEqProofs only [Nat.reduceSub, Nat.reduceAdd, Int.reduceLT, Int.reduceLE, Int.reduceGT, Int.reduceGE, Int.reduceEq, Int.reducePow, Nat.reducePow, Nat.reduceMul, Int.reduceNeg, Int.reduceToNat, Int.reduceAbs, Int.reduceMod, Int.reduceDiv, Int.reduceAdd, Int.reduceSub, Int.reduceMul, Nat.reduceLT, Nat.reduceLeDiff, Nat.reduceEqDiff, decide_eq_true_eq, decide_true, decide_false, and_true, true_and, true_or, or_true, false_or, or_false, and_false, false_and, if_false, ite_true, ite_false, PV.int.injEq, PV.bl.injEq, exists_eq_left', Bool.not_true, Bool.not_false, Bool.false_eq_true, not_true_eq_false, not_false_eq_true, reduceCtorEq, Option.some.injEq, wp_ok, wp_exc, wp_bad, wo_some, wo_none, wo_if, wo_map, wo_bind, wp_of, ws_nx, ws_rt, ws_rf, ws_bk, ws_ct, ws_exc, ws_bad, wp_name, wp_c, wp_m2, wp_m1, wp_test, wp_truthN, wp_sumN, wp_lenN, wp_ixN, wp_and, wp_or, wp_notT, wp_andV, wp_orV, wp_notV, wp_if, wp_ifF, wp_args0, wp_args1, wp_tup, wp_frz, wp_callB, wp_callF, wp_cat, wp_repL, wp_chain, wp_cut, wp_part0, wp_part1, wp_call, wp_callFr, wp_callBx, wp_popN, wp_index, wp_yes, wp_seqI, wp_range, wp_revI, wp_zip, wp_zipB, wp_zipS, wp_enum, wp_zip3, wp_enZ, wp_callK, wp_callKF, wp_callBxF, wp_cps0, wp_cps1, wp_cpv, wp_cpf, ws_parG, ws_seq, ws_nil, ws_never, ws_pass, ws_ret, ws_retF, ws_retN, ws_set, ws_setF, ws_if, ws_asg, ws_par, ws_par3, ws_parF, ws_aug, ws_append, ws_setIx, ws_reverse, ws_clear, ws_extend, ws_popAt, ws_insert, wp_cmpN, wp_callBr, wpP_runP, wpF_runF, wpB_runB, wpP_ok, wpF_ok, wpP_exc, wpB_ok, ws_for', ws_forNil, wp_comp, wpC_nil, ev_g0, ev_gs, ev_gn, ev_s0, ev_ss, ev_m0, ev_m1, ev_a0, ev_a1, ev_r0, ev_rs, ev_l0, ev_l1, ev_d0, ev_d1, ev_ob, ev_om, ev_it, ev_if, ev_gl, ev_gl1, ev_dl, ev_dl1, ev_gla, ev_dla, add_ii, addI_ii, sub_ii, add_ll, add_tt, mod_ii, div_ii, pow_ii, mul_ii, mul_li, lt_ii, le_ii, gt_ii, ge_ii, neg_i, eq_ii, ne_ii, eq_bb, ne_bb, xor_f, xor_t, eq_str, ne_str, is_bb, isnot_bb, is_n, is_in, is_sn, is_bn, is_tn, is_ln, isnot_n, isnot_in, truth_b, truth_i, truth_l, truth_t, len_l, len_t, len_s, ix_l, ix_t, ix_s, seq_l, seq_t, seq_s, tuple_l, tuple_t, list_l, list_t, list_s, on1_p, abs_i, int_b, int_i, max_ii, min_ii, max1_l, min1_l, rev_l, rev_t, zip_ll, zip_tt, cat_ll, range_1, range_2, slot_0, slot_s, zip3_lll, zip3_llt, zip3_ltl, zip3_ltt, zip3_tll, zip3_tlt, zip3_ttl, zip3_ttt, zipB_ll, zipB_tt, zipB_lt, zipB_tl, zipS_ll, zipS_tt, zipS_lt, zipS_tl, omap_en, enum_l, enum_t, down_l, down_t, down_t0, setAll_0, setAll_1, atom_n, atom_b, atom_i, atom_s, permP_0, permP_1, getD_0, getD_s, isi_int_i, isi_int_b, isi_bool_i, isi_bool_b, isi_tup_t, isi_tup_l, isi_lst_l, isi_lst_t, isi_str_s, isi_str_i, isi_str_b, isi_str_n, isi_lt_l, isi_lt_t, isi_lt_i, isi_lt_b, isi_lt_s, isi_lt_n, at_0, at_1, at_2, at_3, at_last, mg_name, mg_tup, mg_lst, mg_nil, mg_cons, own0_own, startR_eq, wipe_0, wipe_1, back_0, back_1, ixN_3_0, ixN_3_1, ixN_3_2, szl, sze, wp_dict, eq_ints, eq_ww, eq_wf, sq_t, sq_f, ix_sq, len_sq, tuple_sq, list_sq, seq_sq, revI_sq, mg_sq, zipS_sq, zipS_st, zipS_ts, zipB_sq, zipB_st, zipB_ts, eq_fm, eq_fmr, iv_len, wvs_len, isring_ok, bins_ok, gates_ok, behind_ok, ahead_ok, out_ok, eq_iv, ne_iv, ix_tv0, ix_tv1, tv_mk, mg_tv, tuple_tv, in_ww, isi_tv, len_tv, eq_tvs, dix_w, lnv_0, lnv_1, sum_iv, wp_dictE, enum_sq, sides_ok, sum_sqi, $ls,*])
noncomputable def r65d : MS := (mSeq (mSet 6 (mCallBx f__law_doors 0 [mName 1])) (mSeq (mSet 6 (mCallB (on1 pvTuple) [mFrz (mComp (mSeqI (mName 6)) (mgName 15) (mYes) (mCallBx f__law_of 0 [mFrz (mArgs [mName 15, mC .non, mCallBx f__law_wide 0 [m2 pvPow (mC (.int 10)) (mC (.int 9))]])]) [15])])) (mAppend 4 (mTup [mCallBx f__law_of 0 [mFrz (mArgs [mC (.str "forth"), mC (.str "back")])], mName 6]))))
noncomputable def r65l : MS := (mSeq (mPar 7 8 [m2 pvIx (mCall f_led [mName 1, mName 7, mFrz (mArgs [mName 10])]) (mC (.int 0)), m2 pvIx (mCall f_led [mName 1, mName 8, mFrz (mArgs [mName 10])]) (mC (.int 0))]) (mSeq (mSet 11 (mCall f_apart [mName 1, mName 7, mName 8])) (mSeq (mIfS (mOr (mTest (m2 pvGt (mName 11) (mName 9))) (mAnd (mTest (m2 pvEq (mName 9) (mC (.int 0)))) (mTest (m2 pvNe (mName 7) (mName 8))))) (mRet (mC (.bl false))) (mNil)) (mSet 9 (mName 11)))))
noncomputable def r65c : MS := (mSeq (mAsg (mgTup (mgCons (mgTup (mgCons (mgName 7) (mgCons (mgName 12) (mgNil)))) (mgCons (mgTup (mgCons (mgName 8) (mgCons (mgName 13) (mgNil)))) (mgNil)))) (mTup [mCall f_led [mName 1, mName 2, mName 4], mCall f_led [mName 1, mName 3, mName 4]])) (mSeq (mSet 14 (mFrz (mComp (mZip3 [mCall f_between [mName 1, mName 2, mName 3], mName 13, mName 12]) (mgTup (mgCons (mgName 16) (mgCons (mgName 17) (mgCons (mgName 18) (mgNil))))) (mYes) (m2 pvSub (m2 pvAdd (mName 16) (mName 17)) (mName 18)) [16, 17, 18]))) (mRet (mCall (f__law_same_k65 6) [mCall f_between [mName 1, mName 7, mName 8], mCallB (on1 pvTuple) [mFrz (mComp (mSeqI (mName 14)) (mgName 19) (mYes) (m2 pvSub (mName 19) (mIxN 14 (mC (.int 0)))) [19])]]))))
noncomputable def r65b : MS := (mSeq (mPar3 7 8 9 [mName 2, mName 3, mCall f_apart [mName 1, mName 2, mName 3]]) (mSeq (mFor (mSeqI (mName 4)) (mgName 10) r65l) r65c))
noncomputable def r65a : MS := (mSeq (mSetF 4 (mArgs [])) (mSeq (mFor (mRange [mCallBx f__law_take 0 [mC (.int 31)]]) (mgName 5) r65d) r65b))
theorem r65_eq : c__law_right = (mSeq (mSet 1 (mCallBx f__law_line 0 [mC (.int 6)])) (mSeq (mAsg (mgTup (mgCons (mgName 2) (mgCons (mgName 3) (mgNil)))) (mCallBx f__law_two 0 [mName 1])) (mSeq (mIfS (mTest (m2 pvEq (mCallBx f__law_take 0 [mC (.int 3)]) (mC (.int 0)))) (mAsg (mgTup (mgCons (mgName 1) (mgCons (mgName 2) (mgCons (mgName 3) (mgNil))))) (mCallBx f__law_great_two 0 [])) (mNil)) r65a))) := rfl
noncomputable def g65 : MS := (mSeq (mParG [4, 5] [.v (mCallB (on1 pvTuple) [mFrz (mComp (mSeqI (mName 2)) (mgName 9) (mYes) (mCallBx f__law_wide 0 [m2 pvAdd (mName 9) (mC (.int 1))]) [9])]), .f (mComp (mSeqI (mName 2)) (mgName 9) (mYes) (mCallBx f__law_wide 0 [m2 pvAdd (mName 9) (mC (.int 1))]) [9])]) (mSeq (mFor (mRange [mName 1]) (mgName 6) (mSeq (mSet 7 (m2 pvMul (m2 pvSub (mCallB (on1 pvSum) [mName 4]) (mSumN 5)) (mCallB (on1 pvInt) [m2 pvEq (mIxN 3 (mC (.int 0))) (mC (.str "ring"))]))) (mSetIx 5 (mName 6) (mCallB (pvMax) [mC (.int 0), mCallB (pvMin) [mIxN 2 (mName 6), m2 pvAdd (mIxN 5 (mName 6)) (mName 7)]])))) (mRet (mTup [mName 3, mName 4, mCallB (on1 pvTuple) [mName 5]]))))
theorem g65_eq : c__law_great_two = (mSeq (mSet 1 (m2 pvAdd (mC (.int 2)) (mCallBx f__law_take 0 [mC (.int 5)]))) (mSeq (mSet 2 (mCallB (on1 pvTuple) [mFrz (mComp (mRange [mName 1]) (mgName 8) (mYes) (m2 pvAdd (mC (.int 1)) (mCallBx f__law_wide 0 [m2 pvPow (mC (.int 10)) (mC (.int 9))])) [8])])) (mSeq (mSet 3 (mTup [m2 pvIx (mFrz (mArgs [mC (.str "row"), mC (.str "ring")])) (mCallBx f__law_take 0 [mC (.int 2)]), mName 2])) g65))) := rfl
theorem same65 : ∀ (d : Nat) (p : PV), Pl d p → f__law_same_k65 d [p, p] = .ok (.bl true)
  | 0, p, h => h.elim
  | d + 1, p, h => by
    have seq : ∀ xs : List PV, xs.length ≤ sizeLine → (∀ x ∈ xs, Pl d x) → ∀ (r : Rho) (QA : List PV → Rho → Prop), r.length = 4 → QA (xs.map fun _ => .bl true) ((r.set 3 .emp).set 2 .emp) →
        WpC QA (compL (mgTup (mgCons (mgName 2) (mgCons (mgName 3) (mgNil)))) (mYes) (mCall (f__law_same_k65 d) [mName 2, mName 3]) [2, 3] (xs.map fun x => pairP x x) [] ((r.set 3 .emp).set 2 .emp)) := fun xs hl hx r QA hr hq => by
      match r, hr with
      | [a, b, c, e], _ =>
      refine wpC_map (fun _ => .bl true) (by simpa using hl) (fun p hp => ?_) (by simpa [Function.comp_def] using hq)
      obtain ⟨x, hxm, rfl⟩ := List.mem_map.mp hp
      have ih := same65 d x (hx x hxm)
      simp_arith only [pairP, ih]
    rw [wpP_eq]
    rw [f__law_same_k65]
    cases p with
    | non => simp_arith only [c__law_same_k65]; simp [pvEq, okD, pvD, PyData.eqv]
    | bl b => simp_arith only [c__law_same_k65]; simp [pvIs]
    | int i => simp_arith only [c__law_same_k65]; simp [pvIs]
    | str x =>
      have hx : PyData.strOk x = true := h
      simp_arith only [c__law_same_k65, eq_ss hx hx]; simp
    | tup xs =>
      simp_arith only [c__law_same_k65, zip_self]
      refine seq xs h.1 h.2 [_, _, .emp, .emp] _ rfl ?_
      simp_arith only [pvAll, bls_true]
      simp
    | lst xs =>
      simp_arith only [c__law_same_k65, zip_self]
      refine seq xs h.1 h.2 [_, _, .emp, .emp] _ rfl ?_
      simp_arith only [pvAll, bls_true]
      simp
    | dic _ _ => exact h.elim
    | scr _ => exact h.elim
    | ty _ => exact h.elim
abbrev iT (a : List Int) : Slot := .val (.tup (iv a))
/-! great rooms, two standings -/
theorem g65_ok {D : PR} {L : Ln} {us : List PV} {k : Nat} {x8 : Slot} (hL : LOk 6 L) (hk : k + 2000 < 2 ^ 39) (hb : Box k us)
    (hD : ∀ ys a b ρ, Box (k + 100) ys → SOk L a → SOk L b → (L.ring = true → a.sum = b.sum) → D.rt (.tup [lnv true true L, .tup (iv a), .tup (iv b)]) (.own ys :: ρ)) :
    WpS D (g65 [.own us, .val (.int (L.rooms.length : Nat)), .val (.tup (iv L.rooms)), .val (lnv true true L), .emp, .emp, .emp, .emp, x8, .emp]) := by
  have hle := hL.le
  have hli : (iv L.rooms).length = L.rooms.length := by simp [iv]
  simp_arith only [g65]
  refine wpC_draw (fun p y => ∃ q v : Int, p = .int q ∧ y = .int v ∧ 0 ≤ v ∧ v ≤ q) 2 hb (by omega) (fun p hp m xs hm hx => ?_) (fun ys zs hy hl2 hz => ?_)
  · rw [hli] at hm
    obtain ⟨j, hj, rfl⟩ := iv_mem hp
    have hj' := hL.rm j hj
    simp_arith only []
    refine (wide_ok hx (by omega) (by omega)).use fun p ys hp => ?_
    obtain ⟨a, rfl, a0, a1, hb⟩ := hp
    simp_arith only []
    exact ⟨by first | exact ⟨_, _, rfl, rfl, a0, by omega⟩ | exact ⟨_, rfl, a0, by omega⟩ | exact ⟨a0, by omega⟩, _, rfl, hb⟩
  rw [hli] at hy hl2
  obtain ⟨a, rfl, ha', hpa⟩ := ints_of (P := fun i v => 0 ≤ v ∧ v ≤ L.rooms.getD i 0) hl2 (fun i hi => by
    obtain ⟨z, e1, q, v, e2, rfl, h1, h2⟩ := hz i _ (iv_at hi)
    cases e2
    exact ⟨v, e1, h1, h2⟩)
  have hA : SOk L a := ⟨ha', hpa⟩
  simp_arith only []
  refine wpC_draw (fun p y => ∃ q v : Int, p = .int q ∧ y = .int v ∧ 0 ≤ v ∧ v ≤ q) 2 hy (by omega) (fun p hp m xs hm hx => ?_) (fun ys zs hy hl2 hz => ?_)
  · rw [hli] at hm
    obtain ⟨j, hj, rfl⟩ := iv_mem hp
    have hj' := hL.rm j hj
    simp_arith only []
    refine (wide_ok hx (by omega) (by omega)).use fun p ys hp => ?_
    obtain ⟨a, rfl, a0, a1, hb⟩ := hp
    simp_arith only []
    exact ⟨by first | exact ⟨_, _, rfl, rfl, a0, by omega⟩ | exact ⟨_, rfl, a0, by omega⟩ | exact ⟨a0, by omega⟩, _, rfl, hb⟩
  rw [hli] at hy hl2
  obtain ⟨b, rfl, hb', hpb⟩ := ints_of (P := fun i v => 0 ≤ v ∧ v ≤ L.rooms.getD i 0) hl2 (fun i hi => by
    obtain ⟨z, e1, q, v, e2, rfl, h1, h2⟩ := hz i _ (iv_at hi)
    cases e2
    exact ⟨v, e1, h1, h2⟩)
  have hB : SOk L b := ⟨hb', hpb⟩
  simp_arith only []
  rw [if_pos (by omega)]
  simp only [Int.toNat_natCast]
  have hlen : (rangeP 0 L.rooms.length).length = L.rooms.length := by simp [rangeP]
  refine ws_forInv (fun i ρ => i ≤ L.rooms.length → ∃ (b : List Int) (x6 x7 x8 : Slot), ρ = [.own ys, .val (.int (L.rooms.length : Nat)), iT L.rooms, .val (lnv true true L), iT a, .own (iv b), x6, x7, x8, .emp] ∧ SOk L b ∧ (L.ring = true → (a.sum = b.sum ∨ (b.sum < a.sum ∧ ∀ j, j < i → b.getD j 0 = L.rooms.getD j 0) ∨ (a.sum < b.sum ∧ ∀ j, j < i → b.getD j 0 = 0))))
    (fun _ => ⟨b, _, _, _, rfl, hB, fun _ => by
      rcases Int.lt_trichotomy a.sum b.sum with q | q | q
      · exact .inr (.inr ⟨q, fun j h => by omega⟩)
      · exact .inl q
      · exact .inr (.inl ⟨q, fun j h => by omega⟩)⟩) ?_ ?_
  · rintro i p ρ e h
    obtain ⟨hi, rfl⟩ := rangeP_get e
    obtain ⟨b, x6, x7, x8, rfl, hB, hc⟩ := h (by omega)
    have lb := hB.1
    have r1 := at_iv (l := L.rooms) (j := i) hi
    have b1 := at_iv (l := b) (j := i) (by omega)
    have ix : ixN (iv b).length ((i : Nat) : Int) = some i := ixN_nat (by rw [iv_len]; omega)
    have sa : pvSum (.tup (iv a)) = some (.int a.sum) := sum_sqi (t := true)
    have sb : pvSum (.lst (iv b)) = some (.int b.sum) := sum_sqi (t := false)
    have hbi := hB.2 i hi
    rw [iv_len] at ix
    cases hr : L.ring with
    | true =>
      generalize ev : max 0 (min (L.rooms.getD i 0) (b.getD i 0 + (a.sum - b.sum))) = v
      have es : (iv b).set i (.int v) = iv (b.set i v) := by simp only [iv, List.map_set]
      have hs := sum_set b i v (by omega)
      simp_arith only [Int.zero_add, sa, sb, hr, if_true, Int.mul_one, r1, b1, ev, ix, es]
      refine fun _ => ⟨_, _, _, _, rfl, ⟨by simp [lb], fun j hj => ?_⟩, fun _ => ?_⟩
      · rw [getD_set (by omega)]
        split
        · rename_i q; subst q; omega
        · exact hB.2 j hj
      · rw [hs]
        have pre : ∀ (P : Nat → Int → Prop), P i v → (∀ j, j < i → P j (b.getD j 0)) → ∀ j, j < i + 1 → P j ((b.set i v).getD j 0) := fun P h1 h2 j hj => by
          rw [getD_set (by omega)]
          split
          · rename_i q; subst q; exact h1
          · exact h2 j (by omega)
        rcases hc hr with q | ⟨q, w⟩ | ⟨q, w⟩
        · left; omega
        · by_cases c : b.getD i 0 + (a.sum - b.sum) ≤ L.rooms.getD i 0
          · left; omega
          · right; left
            exact ⟨by omega, pre (fun j x => x = L.rooms.getD j 0) (by omega) w⟩
        · by_cases c : 0 ≤ b.getD i 0 + (a.sum - b.sum)
          · left; omega
          · right; right
            exact ⟨by omega, pre (fun _ x => x = 0) (by omega) w⟩
    | false =>
      generalize ev : max 0 (min (L.rooms.getD i 0) (b.getD i 0 + 0)) = v
      have es : (iv b).set i (.int v) = iv (b.set i v) := by simp only [iv, List.map_set]
      simp_arith only [Int.zero_add, sa, sb, hr, Int.mul_zero, r1, b1, ev, ix, es]
      refine fun _ => ⟨_, _, _, _, rfl, ⟨by simp [lb], fun j hj => ?_⟩, fun z => by first | exact z.elim | (rw [hr] at z; cases z)⟩
      rw [getD_set (by omega)]
      split
      · rename_i q; subst q; omega
      · exact hB.2 j hj
  · intro ρ h
    obtain ⟨b, x6, x7, x8, rfl, hB, hc⟩ := h (by omega)
    rw [hlen] at hc
    try simp_arith only []
    refine hD _ a b _ (hy.mono (by omega)) hA hB fun hr => ?_
    rcases hc hr with q | ⟨q, w⟩ | ⟨q, w⟩
    · exact q
    · have := sum_le2 a b (by rw [hA.1, hB.1]) fun j hj => by
        rw [hA.1] at hj
        rw [w j hj]
        exact (hA.2 j hj).2
      omega
    · have := sum_le2 b a (by rw [hA.1, hB.1]) fun j hj => by
        rw [hB.1] at hj
        rw [w j hj]
        exact (hA.2 j hj).1
      omega
theorem great2_ok {n : Nat} {xs : List PV} (hx : Box n xs) (hn : n + 5000 < 2 ^ 39) : WpB (fun p ys => ∃ L a b, p = .tup [lnv true true L, .tup (iv a), .tup (iv b)] ∧ LOk 6 L ∧ SOk L a ∧ SOk L b ∧ (L.ring = true → a.sum = b.sum) ∧ Box (n + 500) ys) (fun _ _ => False) (f__law_great_two xs []) := by
  simp_arith only [f__law_great_two, g65_eq]
  refine (take_ok hx (by omega) (by omega) (by omega)).use fun p ys hp => ?_
  obtain ⟨r, rfl, r0, r1, hb⟩ := hp
  simp_arith only []
  rw [if_pos (by omega)]
  have hlen : (rangeP 0 (2 + r).toNat).length = (2 + r).toNat := by simp [rangeP]
  refine wpC_draw (fun _ y => ∃ v : Int, y = .int v ∧ 1 ≤ v ∧ v ≤ 1000000000) 2 hb (by omega) (fun p hp m xs hm hx => ?_) (fun ys zs hy hl hz => ?_)
  · rw [hlen] at hm
    simp_arith only []
    refine (wide_ok hx (by omega) (by omega)).use fun p ys hp => ?_
    obtain ⟨a, rfl, a0, a1, hb⟩ := hp
    simp_arith only []
    exact ⟨by first | exact ⟨_, rfl, by omega, by omega⟩ | exact ⟨by omega, by omega⟩, _, rfl, hb⟩
  rw [hlen] at hy hl
  obtain ⟨l, rfl, hl', hp⟩ := ints_of (P := fun _ v => 1 ≤ v ∧ v ≤ 1000000000) hl (fun i hi => by
    obtain ⟨z, e1, v, rfl, h1, h2⟩ := hz i (.int (0 + i)) (by simp [rangeP, hi])
    exact ⟨v, e1, h1, h2⟩)
  simp_arith only []
  refine (take_ok hy (by omega) (by omega) (by omega)).use fun p ys hp => ?_
  obtain ⟨q, rfl, q0, q1, hb⟩ := hp
  have lok : ∀ b : Bool, LOk 6 ⟨b, l⟩ := fun b => ⟨by simp; omega, by simp; omega, fun h => by simp [hl']; omega, fun j hj => hp j (by simpa [hl'] using hj)⟩
  have l1 : PV.tup [.str "ring", .tup (iv l)] = lnv true true ⟨true, l⟩ := rfl
  have l2 : PV.tup [.str "row", .tup (iv l)] = lnv true true ⟨false, l⟩ := rfl
  have el : (2 + r : Int) = (((Ln.mk true l).rooms.length : Nat) : Int) := by simp; omega
  have el' : (2 + r : Int) = (((Ln.mk false l).rooms.length : Nat) : Int) := el
  have hq : q = 0 ∨ q = 1 := by omega
  rcases hq with rfl | rfl
  · simp_arith only [l1, l2, el']
    refine g65_ok (L := ⟨false, l⟩) (lok false) (by omega) hb fun ys a b ρ h1 h2 h3 h4 => ?_
    simp_arith only []
    exact ⟨_, a, b, rfl, lok false, h2, h3, h4, h1.mono (by omega)⟩
  · simp_arith only [l1, l2, el]
    refine g65_ok (L := ⟨true, l⟩) (lok true) (by omega) hb fun ys a b ρ h1 h2 h3 h4 => ?_
    simp_arith only []
    exact ⟨_, a, b, rfl, lok true, h2, h3, h4, h1.mono (by omega)⟩
/-! the law -/
theorem trip_range {n : Nat} {x y z : List Int} (hx : x.length = n) (hy : y.length = n) (hz : z.length = n) : tripP (iv x) (iv y) (iv z) = (List.range n).map fun j => PV.tup [.int (x.getD j 0), .int (y.getD j 0), .int (z.getD j 0)] := by
  apply List.ext_getElem?
  intro i
  unfold tripP
  rw [List.getElem?_zipWith, List.getElem?_zipWith]
  by_cases h : i < n
  · rw [iv_at (by omega), iv_at (by omega), iv_at (by omega), List.getElem?_map, List.getElem?_range h]
    rfl
  · rw [List.getElem?_eq_none (l := iv x) (by rw [iv_len]; omega), List.getElem?_eq_none (l := (List.range n).map _) (by simp; omega)]
section
variable {D : PR} {L : Ln} {a b : List Int} {us : List PV} {rs : List Bt} {x5 x6 x7 x8 x9 x10 x11 x12 x13 x14 x15 x16 x17 x18 x19 : Slot}
variable (hL : LOk 6 L) (hw : Tw L a b) (hrs : ∀ r ∈ rs, r.2.length = L.ng) (hD : ∀ ρ, D.rt (.bl true) (.own us :: ρ))
include hL hw hrs hD
theorem r65c_ok : WpS D (r65c [.own us, .val (lnv true true L), iT a, iT b, .val (rvs rs), x5, x6, x7, x8, x9, x10, x11, x12, x13, x14, x15, x16, x17, x18, x19]) := by
  have hn := hL.n
  have hle := hL.le
  have hng := ng_le L (by omega)
  have hg : 0 < L.ng := Nat.lt_of_lt_of_le hn ng_ge
  have e1 := led_ok (t := true) (t' := true) (t2 := true) (hL.fitR (by omega) hw.a hrs)
  have e2 := led_ok (t := true) (t' := true) (t2 := true) (hL.fitR (by omega) hw.b hrs)
  rw [ld_en hn hw.a] at e1
  rw [ld_en hn hw.b] at e2
  have e3 := between_ok (t := true) (t' := true) (t1 := true) (t2 := true) (by omega) hw
  have e4 := between_ok (t := true) (t' := true) (t1 := true) (t2 := true) (by omega) (en_tw (run := rs) hn hw)
  simp only [sq_t] at e1 e2 e3 e4
  have c0 : ∀ s, (cnt L s rs (zr L)).length = L.ng := fun s => cnt_len zr_len
  simp_arith only [r65c, e1, e2, e3]
  rw [trip_range (n := L.ng) (by simp) (c0 _) (c0 _)]
  let f : Nat → Int := fun j => (bw L a b).getD j 0 + (cnt L b rs (zr L)).getD j 0 - (cnt L a rs (zr L)).getD j 0
  refine wpC_list (fun j => .int (f j)) (by simp; omega) (fun j _ => ?_) ?_
  · simp_arith only []
    first | rfl | exact ⟨rfl, rfl⟩
  have ef : (List.range L.ng).map (fun j => PV.int (f j)) = iv ((List.range L.ng).map f) := by simp [iv, Function.comp_def]
  rw [ef]
  have a0 : atI (iv ((List.range L.ng).map f)) 0 = some (.int (f 0)) := by
    have := at_iv (l := (List.range L.ng).map f) (j := 0) (by simpa using hg)
    rw [getD_range hg] at this
    exact this
  simp_arith only [e4, a0]
  refine wpC_list (l := (List.range L.ng).map f) (f := PV.int) (fun x => .int (x - f 0)) (by simp; omega) (fun x _ => ?_) ?_
  · simp_arith only [a0]
  have eb : ((List.range L.ng).map f).map (fun x => PV.int (x - f 0)) = iv (bw L (en L a rs) (en L b rs)) := by
    unfold bw iv
    rw [List.map_map, List.map_map]
    refine List.map_congr_left fun j hj => ?_
    have hj' : j < L.ng := by simpa using hj
    have k : ∀ g, g < L.ng → (cnt L a rs (bw L a b)).getD g 0 = (bw L a b).getD g 0 + (cnt L b rs (zr L)).getD g 0 := fun g hg => by
      rw [← cnt_bw hn hw, add_getD (by simpa using hg) (by rw [c0]; exact hg)]
    show PV.int (f j - f 0) = PV.int (zt (en L a rs) (en L b rs) j)
    rw [en_zt hn hw hj', k j hj', k 0 hg]
  rw [eb]
  have s1 := same65 6 (.tup (iv (bw L (en L a rs) (en L b rs)))) (pl_iv 4 _ (by simp; omega))
  simp_arith only [s1]
  exact hD _
theorem r65b_ok (hl : rs.length ≤ 100) : WpS D (r65b [.own us, .val (lnv true true L), iT a, iT b, .own (rs.map rv), x5, x6, x7, x8, x9, x10, x11, x12, x13, x14, x15, x16, x17, x18, x19]) := by
  have hn := hL.n
  have hle := hL.le
  have hg : 0 < L.ng := Nat.lt_of_lt_of_le hn ng_ge
  have e0 := apart_ok (t := true) (t' := true) (t1 := true) (t2 := true) hg (by omega) hw
  simp only [sq_t] at e0
  simp_arith only [r65b, e0]
  refine ws_forInv (fun i ρ => ∃ (x y : List Int) (x10 x11 : Slot), ρ = [.own us, .val (lnv true true L), iT a, iT b, .val (.lst (rs.map rv)), x5, x6, iT x, iT y, .val (.int (ap L x y)), x10, x11, x12, x13, x14, x15, x16, x17, x18, x19] ∧ Tw L x y) ⟨a, b, _, _, rfl, hw⟩ ?_ ?_
  · rintro i p ρ e ⟨x, y, x10, x11, rfl, hw⟩
    rw [List.getElem?_map] at e
    cases er : rs[i]? with
    | none => rw [er] at e; cases e
    | some r =>
    rw [er] at e
    cases e
    have hr : ∀ q ∈ [r], q.2.length = L.ng := fun q hq => by
      simp at hq
      subst hq
      exact hrs _ (List.mem_of_getElem? er)
    have e1 := led_ok (t := true) (t' := true) (t2 := true) (hL.fitR (by omega) hw.a hr)
    have e2 := led_ok (t := true) (t' := true) (t2 := true) (hL.fitR (by omega) hw.b hr)
    rw [ld_en hn hw.a] at e1
    rw [ld_en hn hw.b] at e2
    have tw := en_tw (run := [r]) hn hw
    have e3 := apart_ok (t := true) (t' := true) (t1 := true) (t2 := true) hg (by omega) tw
    simp only [sq_t, rvs, List.map_cons, List.map_nil] at e1 e2 e3
    have l1 := en_ap (run := [r]) hn hw
    have l2 : ¬ (ap L x y < ap L (en L x [r]) (en L y [r])) := by omega
    have ne : pvNe (.tup (iv (en L x [r]))) (.tup (iv (en L y [r]))) = some (.bl (!decide (en L x [r] = en L y [r]))) := ne_ints _ _
    have zz := ap_zero hw hn
    simp_arith only [r65l, e1, e2, e3, ne]
    by_cases h0 : ap L x y = 0
    · have : x = y := zz.mp h0
      subst this
      rw [if_neg l2]
      simp only [h0, if_true, decide_true, Bool.not_true, Bool.false_eq_true, if_false]
      exact ⟨_, _, _, _, rfl, tw⟩
    · rw [if_neg l2]
      simp only [h0, if_false]
      exact ⟨_, _, _, _, rfl, tw⟩
  · rintro ρ ⟨x, y, x10, x11, rfl, _⟩
    exact r65c_ok hL hw hrs hD
end
theorem r65a_ok {D : PR} {L : Ln} {a b : List Int} {us : List PV} {k : Nat} (hL : LOk 6 L) (hw : Tw L a b) (hk : k + 50000 < 2 ^ 39) (hb : Box k us) (hD : ∀ ys ρ, Box (k + 31000) ys → D.rt (.bl true) (.own ys :: ρ)) :
    WpS D (r65a [.own us, .val (lnv true true L), iT a, iT b, .emp, .emp, .emp, .emp, .emp, .emp, .emp, .emp, .emp, .emp, .emp, .emp, .emp, .emp, .emp, .emp]) := by
  have hn := hL.n
  have hle := hL.le
  have hng : L.ng ≤ 7 := by have := ng_pre L; omega
  simp_arith only [r65a]
  refine (take_ok hb (by omega) (by omega) (by omega)).use fun p ys hp => ?_
  obtain ⟨r, rfl, r0, r1, hb⟩ := hp
  try simp_arith only []
  rw [if_pos (by omega)]
  have hlen : (rangeP 0 r.toNat).length = r.toNat := by simp [rangeP]
  refine ws_forInv (fun i ρ => i ≤ r.toNat → ∃ (us : List PV) (rs : List Bt) (x5 x6 x15 : Slot), ρ = [.own us, .val (lnv true true L), iT a, iT b, .own (rs.map rv), x5, x6, .emp, .emp, .emp, .emp, .emp, .emp, .emp, .emp, x15, .emp, .emp, .emp, .emp] ∧ Box (k + 10 + 900 * i) us ∧ rs.length = i ∧ ∀ q ∈ rs, q.2.length = L.ng)
    (fun _ => ⟨ys, [], _, _, _, rfl, hb.mono (by omega), rfl, by simp⟩) ?_ ?_
  · rintro i p ρ e h
    obtain ⟨hi, rfl⟩ := rangeP_get e
    obtain ⟨us, rs, x5, x6, x15, rfl, hb, hwl, hrs⟩ := h (by omega)
    simp_arith only [r65d]
    refine (doors_ok hb (by omega) hL (by omega)).use fun p ys hp => ?_
    obtain ⟨v, rfl, hv, hb⟩ := hp
    try simp_arith only []
    have hwl2 : (wvs v).length = L.ng := by simp [wvs, hv.1]
    refine wpC_draw (fun _ y => ∃ v : Option Int, y = wv v) 3 hb (by omega) (fun p hp m xs hm hx => ?_) (fun ys zs hy hl hz => ?_)
    · rw [hwl2] at hm
      obtain ⟨u, _, rfl⟩ := List.mem_map.mp hp
      try simp_arith only []
      refine (wide_ok hx (by omega) (by omega)).use fun p ys hp => ?_
      obtain ⟨c, rfl, c0, c1, hb⟩ := hp
      try simp_arith only []
      refine (of_ok hb (by omega) (by simp) (by simp)).use fun y ys hy => ?_
      obtain ⟨hy, hb⟩ := hy
      refine ⟨?_, _, rfl, hb.mono (by omega)⟩
      simp at hy
      rcases hy with rfl | rfl | rfl
      · exact ⟨u, rfl⟩
      · exact ⟨none, rfl⟩
      · exact ⟨some c, rfl⟩
    obtain ⟨ws, rfl, hws⟩ : ∃ ws, zs = wvs ws ∧ ws.length = L.ng := by
      rw [hwl2] at hl
      have h : ∀ z ∈ zs, ∃ v : Option Int, z = wv v := fun z h => by obtain ⟨_, _, q⟩ := all_of (by rw [hwl2]; exact hl) hz z h; exact q
      clear hz hy
      revert hl
      generalize L.ng = m
      intro hl
      subst hl
      induction zs with
      | nil => exact ⟨[], rfl, rfl⟩
      | cons z zs ih =>
        obtain ⟨v, rfl⟩ := h z List.mem_cons_self
        obtain ⟨ws, rfl, hl⟩ := ih fun z hz => h z (List.mem_cons_of_mem _ hz)
        exact ⟨v :: ws, rfl, by simp [hl]⟩
    try simp_arith only []
    refine (of_ok hy (by omega) (by simp) (by simp)).use fun y ys hy => ?_
    obtain ⟨hy, hb⟩ := hy
    have ⟨w, ew⟩ : ∃ w, y = .str (wy w) := by
      simp at hy
      rcases hy with rfl | rfl
      · exact ⟨true, rfl⟩
      · exact ⟨false, rfl⟩
    subst ew
    try simp_arith only []
    rw [if_pos (sz _ (by simp; omega))]
    refine fun _ => ⟨_, rs ++ [(w, ws)], .val (.int (i : Nat)), .val (.tup (wvs ws)), x15, by simp [rv], hb.mono (by rw [hwl2]; omega), by simp [hwl], fun q hq => ?_⟩
    rcases List.mem_append.mp hq with hq | hq
    · exact hrs q hq
    · simp at hq; subst hq; exact hws
  · intro ρ h
    obtain ⟨us, rs, x5, x6, x15, rfl, hb, hwl, hrs⟩ := h (by omega)
    rw [hlen] at hb hwl
    exact r65b_ok hL hw hrs (fun ρ => hD _ _ (hb.mono (by omega))) (by omega)
theorem right65 {n : Nat} {xs : List PV} (hx : Box n xs) (hn : n < 2 ^ 38) : WpB (fun p ys => p = .bl true ∧ Box (n + 50000) ys) (fun _ _ => False) (f__law_right xs []) := by
  simp_arith only [f__law_right, r65_eq]
  refine (line_ok (m := 6) hx (by omega) (by omega) (by omega)).use fun p ys hp => ?_
  obtain ⟨L, rfl, hL, hb⟩ := hp
  have hle := hL.le
  try simp_arith only []
  refine (two_ok hb (by omega) hL (by omega)).use fun p ys hp => ?_
  obtain ⟨a, b, rfl, hA, hB, hs, hb⟩ := hp
  try simp_arith only []
  refine (take_ok hb (by omega) (by omega) (by omega)).use fun p ys hp => ?_
  obtain ⟨q, rfl, q0, q1, hb⟩ := hp
  try simp_arith only []
  by_cases hq : q = 0
  · rw [if_pos hq]
    refine (great2_ok hb (by omega)).use fun p ys hp => ?_
    obtain ⟨L, a, b, rfl, hL, hA, hB, hs, hb⟩ := hp
    try simp_arith only []
    refine r65a_ok hL (hA.tw hB hs) (by omega) hb fun ys ρ hb => ?_
    try simp_arith only []
    exact hb.mono (by omega)
  · rw [if_neg hq]
    refine r65a_ok hL (hA.tw hB hs) (by omega) hb fun ys ρ hb => ?_
    try simp_arith only []
    exact hb.mono (by omega)
theorem law_k65 (ns : List Int) (hl : ns.length ≤ 63) : f_law [.scr ns] = .ok (.bl true) :=
  law_std f__law_right 4 50000 (by omega) (by omega) (fun n xs hx hn => right65 hx hn) ns hl
end Ev

set_option maxHeartbeats 4000000
set_option Elab.async false
set_option linter.all false
set_option maxRecDepth 100000
set_option maxHeartbeats 0
namespace Ev
open PySem L2 PyProof.Rows
def hFa0 : List He.Fa := [.glo "is_ring", .keep "is_ring", .glo "bins", .keep "bins", .glo "gates", .keep "gates", .glo "bin_behind", .keep "bin_behind", .glo "bin_ahead", .keep "bin_ahead", .glo "gate_out", .keep "gate_out", .glo "goes", .keep "goes", .glo "moved", .keep "moved"]
def hFa1 : List He.Fa := [.glo "behind_counts", .keep "behind_counts", .glo "signed", .keep "signed", .glo "beat", .keep "beat", .glo "between", .keep "between", .glo "apart", .keep "apart", .glo "summed", .keep "summed", .glo "led", .keep "led", .glo "_law_box", .keep "_law_box"]
def hFa2 : List He.Fa := [.glo "_law_take", .keep "_law_take", .glo "_law_same", .keep "_law_same", .glo "_law_of", .keep "_law_of", .glo "_law_wide", .keep "_law_wide", .glo "_law_line", .keep "_law_line", .glo "_law_doors", .keep "_law_doors", .glo "_law_lies", .keep "_law_lies", .glo "_law_two", .keep "_law_two"]
def hFa3 : List He.Fa := [.glo "_law_great_two", .keep "_law_great_two", .glo "_law_right", .keep "_law_right", .glo "law", .keep "law", .free "abs", .free "all", .free "bool", .free "int", .free "isinstance", .free "len", .free "list", .free "max", .free "min", .free "range"]
def hFa4 : List He.Fa := [.free "str", .free "sum", .free "tuple", .free "zip", .str "RING" "ring", .str "FORTH" "forth"]
def hFa : List He.Fa := hFa0 ++ hFa1 ++ hFa2 ++ hFa3 ++ hFa4
def hFn0 : List He.FnD := [⟨("is_ring", none), "is_ring", "is_ring", defArgs st_is_ring, defBody st_is_ring, defScope st_is_ring⟩, ⟨("bins", none), "bins", "bins", defArgs st_bins, defBody st_bins, defScope st_bins⟩, ⟨("gates", none), "gates", "gates", defArgs st_gates, defBody st_gates, defScope st_gates⟩, ⟨("bin_behind", none), "bin_behind", "bin_behind", defArgs st_bin_behind, defBody st_bin_behind, defScope st_bin_behind⟩, ⟨("bin_ahead", none), "bin_ahead", "bin_ahead", defArgs st_bin_ahead, defBody st_bin_ahead, defScope st_bin_ahead⟩, ⟨("gate_out", none), "gate_out", "gate_out", defArgs st_gate_out, defBody st_gate_out, defScope st_gate_out⟩, ⟨("goes", none), "goes", "goes", defArgs st_goes, defBody st_goes, defScope st_goes⟩, ⟨("moved", none), "moved", "moved", defArgs st_moved, defBody st_moved, defScope st_moved⟩, ⟨("behind_counts", none), "behind_counts", "behind_counts", defArgs st_behind_counts, defBody st_behind_counts, defScope st_behind_counts⟩, ⟨("signed", none), "signed", "signed", defArgs st_signed, defBody st_signed, defScope st_signed⟩, ⟨("beat", none), "beat", "beat", defArgs st_beat, defBody st_beat, defScope st_beat⟩, ⟨("between", none), "between", "between", defArgs st_between, defBody st_between, defScope st_between⟩, ⟨("apart", none), "apart", "apart", defArgs st_apart, defBody st_apart, defScope st_apart⟩, ⟨("summed", none), "summed", "summed", defArgs st_summed, defBody st_summed, defScope st_summed⟩, ⟨("led", none), "led", "led", defArgs st_led, defBody st_led, defScope st_led⟩, ⟨("_law_box", none), "_law_box", "_law_box", defArgs st__law_box, defBody st__law_box, defScope st__law_box⟩]
def hFn1 : List He.FnD := [⟨("_law_take", none), "_law_take", "_law_take", defArgs st__law_take, defBody st__law_take, defScope st__law_take⟩, ⟨("_law_same", none), "_law_same", "_law_same", defArgs st__law_same, defBody st__law_same, defScope st__law_same⟩, ⟨("_law_of", none), "_law_of", "_law_of", defArgs st__law_of, defBody st__law_of, defScope st__law_of⟩, ⟨("_law_wide", none), "_law_wide", "_law_wide", defArgs st__law_wide, defBody st__law_wide, defScope st__law_wide⟩, ⟨("_law_line", none), "_law_line", "_law_line", defArgs st__law_line, defBody st__law_line, defScope st__law_line⟩, ⟨("_law_doors", none), "_law_doors", "_law_doors", defArgs st__law_doors, defBody st__law_doors, defScope st__law_doors⟩, ⟨("_law_lies", none), "_law_lies", "_law_lies", defArgs st__law_lies, defBody st__law_lies, defScope st__law_lies⟩, ⟨("_law_two", none), "_law_two", "_law_two", defArgs st__law_two, defBody st__law_two, defScope st__law_two⟩, ⟨("_law_great_two", none), "_law_great_two", "_law_great_two", defArgs st__law_great_two, defBody st__law_great_two, defScope st__law_great_two⟩, ⟨("_law_right", none), "_law_right", "_law_right", defArgs st__law_right, defBody st__law_right, defScope st__law_right⟩, ⟨("law", none), "law", "law", defArgs st_law, defBody st_law, defScope st_law⟩]
def hFn : List He.FnD := hFn0 ++ hFn1
def hLo0 : List Str := ["is_ring", "bins", "gates", "bin_behind", "bin_ahead", "gate_out", "goes", "moved", "behind_counts", "signed", "beat", "between", "apart", "summed", "led", "_law_box"]
def hLo1 : List Str := ["_law_take", "_law_same", "_law_of", "_law_wide", "_law_line", "_law_doors", "_law_lies", "_law_two", "_law_great_two", "_law_right", "RING", "FORTH", "NotAlike"]
def hLo : List Str := hLo0 ++ hLo1
abbrev hR : PySem.W.OpenRow := PySem.W.OpenLaw.row PySem.Challenge.rw_forthback_k65_whole_never_further_apart
abbrev hQ : Program := PySem.W.view hR.prog [35]
abbrev hHk : PySem.W.Hook := He.hookE 4 hFa hFn
def hOb (s : PySem.W.SharedT) : He.Al := He.obsG 4 hFa hFn (HandSHeadRun.getT s)
theorem hOb_eq (s : PySem.W.SharedT) : hOb s = hHk.obs s.abs := He.obsG_eq (HandSHeadRun.getT_eq s)
theorem hRun (w : World) : HandSHeadRun.RunEq hR hQ hHk hOb 5800 hLo w := by
  intro os
  kernel_rfl
theorem hTop {K : PySem.W.Frag} {mg : Str → Option Value} {h : Heap} (X : K.In h) (G : h.Ns mainGlobals mg) (c : He.SaysE hFa hFn K) : Nonempty (Top K mg) := by
  obtain ⟨fd_is_ring, d_is_ring⟩ := def_at (x := "is_ring") (st := st_is_ring) (ps := ["line"]) X G c 0 0 rfl rfl rfl (fun _ _ _ _ _ _ us hl => match us, hl with | [_], _ => rfl)
  obtain ⟨fd_bins, d_bins⟩ := def_at (x := "bins") (st := st_bins) (ps := ["line"]) X G c 1 2 rfl rfl rfl (fun _ _ _ _ _ _ us hl => match us, hl with | [_], _ => rfl)
  obtain ⟨fd_gates, d_gates⟩ := def_at (x := "gates") (st := st_gates) (ps := ["line"]) X G c 2 4 rfl rfl rfl (fun _ _ _ _ _ _ us hl => match us, hl with | [_], _ => rfl)
  obtain ⟨fd_bin_behind, d_bin_behind⟩ := def_at (x := "bin_behind") (st := st_bin_behind) (ps := ["line", "gate"]) X G c 3 6 rfl rfl rfl (fun _ _ _ _ _ _ us hl => match us, hl with | [_, _], _ => rfl)
  obtain ⟨fd_bin_ahead, d_bin_ahead⟩ := def_at (x := "bin_ahead") (st := st_bin_ahead) (ps := ["line", "gate"]) X G c 4 8 rfl rfl rfl (fun _ _ _ _ _ _ us hl => match us, hl with | [_, _], _ => rfl)
  obtain ⟨fd_gate_out, d_gate_out⟩ := def_at (x := "gate_out") (st := st_gate_out) (ps := ["line", "place"]) X G c 5 10 rfl rfl rfl (fun _ _ _ _ _ _ us hl => match us, hl with | [_, _], _ => rfl)
  obtain ⟨fd_goes, d_goes⟩ := def_at (x := "goes") (st := st_goes) (ps := ["line", "widths", "standing", "way", "gate"]) X G c 6 12 rfl rfl rfl (fun _ _ _ _ _ _ us hl => match us, hl with | [_, _, _, _, _], _ => rfl)
  obtain ⟨fd_moved, d_moved⟩ := def_at (x := "moved") (st := st_moved) (ps := ["line", "widths", "standing", "way"]) X G c 7 14 rfl rfl rfl (fun _ _ _ _ _ _ us hl => match us, hl with | [_, _, _, _], _ => rfl)
  obtain ⟨fd_behind_counts, d_behind_counts⟩ := def_at (x := "behind_counts") (st := st_behind_counts) (ps := ["line", "standing", "counts"]) X G c 8 16 rfl rfl rfl (fun _ _ _ _ _ _ us hl => match us, hl with | [_, _, _], _ => rfl)
  obtain ⟨fd_signed, d_signed⟩ := def_at (x := "signed") (st := st_signed) (ps := ["went", "way"]) X G c 9 18 rfl rfl rfl (fun _ _ _ _ _ _ us hl => match us, hl with | [_, _], _ => rfl)
  obtain ⟨fd_beat, d_beat⟩ := def_at (x := "beat") (st := st_beat) (ps := ["line", "widths", "standing", "way"]) X G c 10 20 rfl rfl rfl (fun _ _ _ _ _ _ us hl => match us, hl with | [_, _, _, _], _ => rfl)
  obtain ⟨fd_between, d_between⟩ := def_at (x := "between") (st := st_between) (ps := ["line", "one", "other"]) X G c 11 22 rfl rfl rfl (fun _ _ _ _ _ _ us hl => match us, hl with | [_, _, _], _ => rfl)
  obtain ⟨fd_apart, d_apart⟩ := def_at (x := "apart") (st := st_apart) (ps := ["line", "one", "other"]) X G c 12 24 rfl rfl rfl (fun _ _ _ _ _ _ us hl => match us, hl with | [_, _, _], _ => rfl)
  obtain ⟨fd_summed, d_summed⟩ := def_at (x := "summed") (st := st_summed) (ps := ["one", "other"]) X G c 13 26 rfl rfl rfl (fun _ _ _ _ _ _ us hl => match us, hl with | [_, _], _ => rfl)
  obtain ⟨fd_led, d_led⟩ := def_at (x := "led") (st := st_led) (ps := ["line", "standing", "run"]) X G c 14 28 rfl rfl rfl (fun _ _ _ _ _ _ us hl => match us, hl with | [_, _, _], _ => rfl)
  obtain ⟨fd__law_box, d__law_box⟩ := def_at (x := "_law_box") (st := st__law_box) (ps := ["_law_script", "_law_k"]) X G c 15 30 rfl rfl rfl (fun _ _ _ _ _ _ us hl => match us, hl with | [_, _], _ => rfl)
  obtain ⟨fd__law_take, d__law_take⟩ := def_at (x := "_law_take") (st := st__law_take) (ps := ["_law_box_here", "_law_bound"]) X G c 16 32 rfl rfl rfl (fun _ _ _ _ _ _ us hl => match us, hl with | [_, _], _ => rfl)
  obtain ⟨fd__law_same, d__law_same⟩ := def_at (x := "_law_same") (st := st__law_same) (ps := ["_law_found", "_law_due"]) X G c 17 34 rfl rfl rfl (fun _ _ _ _ _ _ us hl => match us, hl with | [_, _], _ => rfl)
  obtain ⟨fd__law_of, d__law_of⟩ := def_at (x := "_law_of") (st := st__law_of) (ps := ["_law_box_here", "_law_some"]) X G c 18 36 rfl rfl rfl (fun _ _ _ _ _ _ us hl => match us, hl with | [_, _], _ => rfl)
  obtain ⟨fd__law_wide, d__law_wide⟩ := def_at (x := "_law_wide") (st := st__law_wide) (ps := ["_law_box_here", "_law_bound"]) X G c 19 38 rfl rfl rfl (fun _ _ _ _ _ _ us hl => match us, hl with | [_, _], _ => rfl)
  obtain ⟨fd__law_line, d__law_line⟩ := def_at (x := "_law_line") (st := st__law_line) (ps := ["_law_box_here", "_law_most"]) X G c 20 40 rfl rfl rfl (fun _ _ _ _ _ _ us hl => match us, hl with | [_, _], _ => rfl)
  obtain ⟨fd__law_doors, d__law_doors⟩ := def_at (x := "_law_doors") (st := st__law_doors) (ps := ["_law_box_here", "_law_own"]) X G c 21 42 rfl rfl rfl (fun _ _ _ _ _ _ us hl => match us, hl with | [_, _], _ => rfl)
  obtain ⟨fd__law_lies, d__law_lies⟩ := def_at (x := "_law_lies") (st := st__law_lies) (ps := ["_law_box_here", "_law_own"]) X G c 22 44 rfl rfl rfl (fun _ _ _ _ _ _ us hl => match us, hl with | [_, _], _ => rfl)
  obtain ⟨fd__law_two, d__law_two⟩ := def_at (x := "_law_two") (st := st__law_two) (ps := ["_law_box_here", "_law_own"]) X G c 23 46 rfl rfl rfl (fun _ _ _ _ _ _ us hl => match us, hl with | [_, _], _ => rfl)
  obtain ⟨fd__law_great_two, d__law_great_two⟩ := def_at (x := "_law_great_two") (st := st__law_great_two) (ps := ["_law_box_here"]) X G c 24 48 rfl rfl rfl (fun _ _ _ _ _ _ us hl => match us, hl with | [_], _ => rfl)
  obtain ⟨fd__law_right, d__law_right⟩ := def_at (x := "_law_right") (st := st__law_right) (ps := ["_law_box_here"]) X G c 25 50 rfl rfl rfl (fun _ _ _ _ _ _ us hl => match us, hl with | [_], _ => rfl)
  obtain ⟨fd_law, d_law⟩ := def_at (x := "law") (st := st_law) (ps := ["_law_script"]) X G c 26 52 rfl rfl rfl (fun _ _ _ _ _ _ us hl => match us, hl with | [_], _ => rfl)
  exact ⟨{ f_is_ring := _, fd_is_ring := fd_is_ring, d_is_ring := d_is_ring, f_bins := _, fd_bins := fd_bins, d_bins := d_bins, f_gates := _, fd_gates := fd_gates, d_gates := d_gates, f_bin_behind := _, fd_bin_behind := fd_bin_behind, d_bin_behind := d_bin_behind, f_bin_ahead := _, fd_bin_ahead := fd_bin_ahead, d_bin_ahead := d_bin_ahead, f_gate_out := _, fd_gate_out := fd_gate_out, d_gate_out := d_gate_out, f_goes := _, fd_goes := fd_goes, d_goes := d_goes, f_moved := _, fd_moved := fd_moved, d_moved := d_moved, f_behind_counts := _, fd_behind_counts := fd_behind_counts, d_behind_counts := d_behind_counts, f_signed := _, fd_signed := fd_signed, d_signed := d_signed, f_beat := _, fd_beat := fd_beat, d_beat := d_beat, f_between := _, fd_between := fd_between, d_between := d_between, f_apart := _, fd_apart := fd_apart, d_apart := d_apart, f_summed := _, fd_summed := fd_summed, d_summed := d_summed, f_led := _, fd_led := fd_led, d_led := d_led, f__law_box := _, fd__law_box := fd__law_box, d__law_box := d__law_box, f__law_take := _, fd__law_take := fd__law_take, d__law_take := d__law_take, f__law_same := _, fd__law_same := fd__law_same, d__law_same := d__law_same, f__law_of := _, fd__law_of := fd__law_of, d__law_of := d__law_of, f__law_wide := _, fd__law_wide := fd__law_wide, d__law_wide := d__law_wide, f__law_line := _, fd__law_line := fd__law_line, d__law_line := d__law_line, f__law_doors := _, fd__law_doors := fd__law_doors, d__law_doors := d__law_doors, f__law_lies := _, fd__law_lies := fd__law_lies, d__law_lies := d__law_lies, f__law_two := _, fd__law_two := fd__law_two, d__law_two := d__law_two, f__law_great_two := _, fd__law_great_two := fd__law_great_two, d__law_great_two := d__law_great_two, f__law_right := _, fd__law_right := fd__law_right, d__law_right := d__law_right, f_law := _, fd_law := fd_law, d_law := d_law, z_abs := He.free_ok X G (c.fact 54 rfl), z_all := He.free_ok X G (c.fact 55 rfl), z_bool := He.free_ok X G (c.fact 56 rfl), z_int := He.free_ok X G (c.fact 57 rfl), z_isinstance := He.free_ok X G (c.fact 58 rfl), z_len := He.free_ok X G (c.fact 59 rfl), z_list := He.free_ok X G (c.fact 60 rfl), z_max := He.free_ok X G (c.fact 61 rfl), z_min := He.free_ok X G (c.fact 62 rfl), z_range := He.free_ok X G (c.fact 63 rfl), z_str := He.free_ok X G (c.fact 64 rfl), z_sum := He.free_ok X G (c.fact 65 rfl), z_tuple := He.free_ok X G (c.fact 66 rfl), z_zip := He.free_ok X G (c.fact 67 rfl), g_RING := He.str_ok X G (c.fact 68 rfl), g_FORTH := He.str_ok X G (c.fact 69 rfl) }⟩
end Ev
open PySem PySem.W PySem.Calls PyProof.Rows
theorem PySem.Challenge.cw_forthback_k65_whole_never_further_apart_holds : PySem.Challenge.rw_forthback_k65_whole_never_further_apart.Holds := by
  w_on; o_law
  refine HandSHeadRun.head_any (r := Ev.hR) (q := Ev.hQ) (H := Ev.hHk) (ob := Ev.hOb) (loose := Ev.hLo) (d := HandSHeadRun.topDef Ev.hR.prog 35) (kwd := []) Ev.hOb_eq
    (by kernel_rfl) (fun s => by kernel_rfl) Ev.hRun (by kernel_rfl) (by kernel_rfl) (by kernel_rfl) (by rfl) (by first | assumption | decide +kernel) (by decide +kernel) ⟨rfl, rfl, rfl, rfl, rfl, by decide +kernel⟩ ?hw ?hc
  case hw => w_witness2
  case hc =>
    refine Ev.walk_G (l := PySem.Challenge.rw_forthback_k65_whole_never_further_apart) (n := 63) (k := 8) (x := "_law_script") (CX := L2.CX0) rfl (by decide) (by kernel_rfl) ⟨rfl, by decide, by decide⟩ ?F (fun _ _ _ _ z => z)
    intro w mg fa h Y G hmg0
    obtain ⟨K, KX, c⟩ := Y
    have hmg : mg ("law" : PySem.Str) = some (.ref fa) := by
      have e : (HandSHeadRun.topDef Ev.hR.prog 35).name = ("law" : PySem.Str) := by kernel_rfl
      rw [← e]; exact hmg0
    obtain ⟨T⟩ := Ev.hTop KX G c
    exact Ev.law_end KX hmg T.d_law (fun base => Ev.ok_law T) Ev.law_k65

