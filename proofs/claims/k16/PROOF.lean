import PyProof.Rows.All
import Wide.All
import OpenK.AllK
import Wide.FinOn
import HandS.ForMost
import HandS.Exc
import HandS.IsInst
import HandS.Style
import HandS.TupAny
import HandS.TupMul
import HandS.Wide
import HandS.Flow
import HandS.Text
import HandS.CallSlots
import HandS.WordsExc
import HandS.Lambda
import HandS.Walk
import HandS.Rev
import HandS.Zip
import HandS.Deep
import HandS.WideMore
import HandS.HeadEnd
import HandS.Head0
import HandS.Head1
import HandS.Head2
import HandS.HeadHook1
import PySem.Challenge.RW_forthback_k16_turns_known_by_hand
set_option Elab.async false
set_option linter.all false
set_option maxRecDepth 100000
/-! Ev: plain values for Python data, mirrors of code as functions, and what it means that a mirror is sound. -/
namespace Ev
open PySem L2

/-- plain values -/
inductive PV where
  | non | bl (b : Bool) | int (i : Int) | str (x : Str)
  | tup (xs : List PV) | lst (xs : List PV)
  | dic (ks : List Key) (vs : List PV)
  | scr (ns : List Int)
  | ty (n : String)

mutual
def Rep (K : PySem.W.Frag) (F : Hp) : PV → V → Prop
  | .non, v => v = .non
  | .bl b, v => v = .bl b
  | .int i, v => v = .int i
  | .str x, v => v = .str x
  | .tup xs, v => ∃ a vs, v = .ref a ∧ F a = some (.tup vs) ∧ Reps K F xs vs
  | .lst xs, v => ∃ a vs, v = .ref a ∧ F a = some (.lst vs) ∧ Reps K F xs vs
  | .dic ks xs, v => ∃ a vs, v = .ref a ∧ F a = some (.dK (ks.zip vs)) ∧ ks.length = vs.length ∧ Reps K F xs vs
  | .scr ns, v => ∃ a, v = .ref a ∧ SqL K F a (ns.map V.int)
  | .ty n, v => v = .ty n
def Reps (K : PySem.W.Frag) (F : Hp) : List PV → List V → Prop
  | [], vs => vs = []
  | x :: xs, vs => ∃ v r, vs = v :: r ∧ Rep K F x v ∧ Reps K F xs r
end

mutual
theorem Rep.mono {K : PySem.W.Frag} {F F' : Hp} (h : Same F F') : ∀ (p : PV) (v : V), Rep K F p v → Rep K F' p v
  | .non, v, r => by simpa [Rep] using r
  | .bl b, v, r => by simpa [Rep] using r
  | .int i, v, r => by simpa [Rep] using r
  | .str x, v, r => by simpa [Rep] using r
  | .tup xs, v, r => by
    unfold Rep at r ⊢
    obtain ⟨a, vs, e, q, t⟩ := r
    exact ⟨a, vs, e, h _ _ q, Reps.mono h xs vs t⟩
  | .lst xs, v, r => by
    unfold Rep at r ⊢
    obtain ⟨a, vs, e, q, t⟩ := r
    exact ⟨a, vs, e, h _ _ q, Reps.mono h xs vs t⟩
  | .dic ks xs, v, r => by
    unfold Rep at r ⊢
    obtain ⟨a, vs, e, q, l, t⟩ := r
    exact ⟨a, vs, e, h _ _ q, l, Reps.mono h xs vs t⟩
  | .scr ns, v, r => by
    unfold Rep at r ⊢
    obtain ⟨a, e, q⟩ := r
    exact ⟨a, e, h.seq q⟩
  | .ty n, v, r => by simpa [Rep] using r
theorem Reps.mono {K : PySem.W.Frag} {F F' : Hp} (h : Same F F') : ∀ (ps : List PV) (vs : List V), Reps K F ps vs → Reps K F' ps vs
  | [], vs, r => by simpa [Reps] using r
  | p :: ps, vs, r => by
    unfold Reps at r ⊢
    obtain ⟨v, s, e, a, b⟩ := r
    exact ⟨v, s, e, Rep.mono h p v a, Reps.mono h ps s b⟩
end
section
variable {K : PySem.W.Frag} {F F' : Hp}
theorem Reps.length : ∀ {ps : List PV} {vs : List V}, Reps K F ps vs → ps.length = vs.length
  | [], vs, r => by unfold Reps at r; subst r; rfl
  | p :: ps, vs, r => by
    unfold Reps at r
    obtain ⟨v, s, rfl, _, b⟩ := r
    simp [Reps.length b]
theorem Reps.nil : Reps K F [] [] := by unfold Reps; rfl
theorem Reps.cons {p : PV} {ps : List PV} {v : V} {vs : List V} (a : Rep K F p v) (b : Reps K F ps vs) : Reps K F (p :: ps) (v :: vs) := by
  unfold Reps; exact ⟨v, vs, rfl, a, b⟩
theorem Reps.inv {p : PV} {ps : List PV} {ws : List V} (h : Reps K F (p :: ps) ws) : ∃ v vs, ws = v :: vs ∧ Rep K F p v ∧ Reps K F ps vs := by
  unfold Reps at h; exact h
theorem Reps.inv0 {ws : List V} (h : Reps K F [] ws) : ws = [] := by
  unfold Reps at h; exact h
theorem Reps.append : ∀ {ps qs : List PV} {vs ws : List V}, Reps K F ps vs → Reps K F qs ws → Reps K F (ps ++ qs) (vs ++ ws)
  | [], qs, vs, ws, a, b => by rw [a.inv0]; exact b
  | p :: ps, qs, vs, ws, a, b => by
    obtain ⟨v, r, rfl, x, y⟩ := a.inv
    exact Reps.cons x (Reps.append y b)
theorem Reps.get : ∀ {ps : List PV} {vs : List V} {i : Nat} {p : PV}, Reps K F ps vs → ps[i]? = some p → ∃ v, vs[i]? = some v ∧ Rep K F p v
  | [], vs, i, p, a, e => by simp at e
  | q :: ps, vs, 0, p, a, e => by
    obtain ⟨v, r, rfl, x, y⟩ := a.inv
    simp at e; subst e
    exact ⟨v, rfl, x⟩
  | q :: ps, vs, i + 1, p, a, e => by
    obtain ⟨v, r, rfl, x, y⟩ := a.inv
    obtain ⟨w, h1, h2⟩ := Reps.get (i := i) y (by simpa using e)
    exact ⟨w, by simpa using h1, h2⟩
theorem Reps.getv : ∀ {ps : List PV} {vs : List V} {i : Nat} {v : V}, Reps K F ps vs → vs[i]? = some v → ∃ p, ps[i]? = some p ∧ Rep K F p v
  | [], vs, i, v, a, e => by rw [a.inv0] at e; simp at e
  | q :: ps, vs, 0, v, a, e => by
    obtain ⟨w, r, rfl, x, y⟩ := a.inv
    simp at e; subst e
    exact ⟨q, rfl, x⟩
  | q :: ps, vs, i + 1, v, a, e => by
    obtain ⟨w, r, rfl, x, y⟩ := a.inv
    obtain ⟨p, h1, h2⟩ := Reps.getv (i := i) y (by simpa using e)
    exact ⟨p, by simpa using h1, h2⟩
theorem Reps.set : ∀ {ps : List PV} {vs : List V} {p : PV} {v : V} (i : Nat), Rep K F p v → Reps K F ps vs → Reps K F (ps.set i p) (vs.set i v)
  | [], vs, p, v, i, a, b => by rw [b.inv0]; simpa using Reps.nil
  | q :: ps, vs, p, v, 0, a, b => by
    obtain ⟨w, r, rfl, x, y⟩ := b.inv
    exact Reps.cons a y
  | q :: ps, vs, p, v, i + 1, a, b => by
    obtain ⟨w, r, rfl, x, y⟩ := b.inv
    exact Reps.cons x (Reps.set i a y)
theorem Reps.take : ∀ {ps : List PV} {vs : List V} (n : Nat), Reps K F ps vs → Reps K F (ps.take n) (vs.take n)
  | ps, vs, 0, a => by simpa using Reps.nil
  | [], vs, n + 1, a => by rw [a.inv0]; exact Reps.nil
  | q :: ps, vs, n + 1, a => by
    obtain ⟨w, r, rfl, x, y⟩ := a.inv
    exact Reps.cons x (Reps.take n y)
theorem Reps.drop : ∀ {ps : List PV} {vs : List V} (n : Nat), Reps K F ps vs → Reps K F (ps.drop n) (vs.drop n)
  | ps, vs, 0, a => by simpa using a
  | [], vs, n + 1, a => by rw [a.inv0]; exact Reps.nil
  | q :: ps, vs, n + 1, a => by
    obtain ⟨w, r, rfl, x, y⟩ := a.inv
    simpa using Reps.drop n y
theorem Reps.reverse : ∀ {ps : List PV} {vs : List V}, Reps K F ps vs → Reps K F ps.reverse vs.reverse
  | [], vs, a => by rw [a.inv0]; exact Reps.nil
  | q :: ps, vs, a => by
    obtain ⟨w, r, rfl, x, y⟩ := a.inv
    simpa using Reps.append (Reps.reverse y) (Reps.cons x Reps.nil)
theorem Reps.rep {ps : List PV} {vs : List V} (h : Reps K F ps vs) : ∀ k : Nat, Reps K F (List.replicate k ps).flatten (List.replicate k vs).flatten
  | 0 => by simpa using Reps.nil
  | k + 1 => by
    simp only [List.replicate_succ, List.flatten_cons]
    exact Reps.append h (Reps.rep h k)
theorem Reps.dropLast {ps : List PV} {vs : List V} (h : Reps K F ps vs) : Reps K F ps.dropLast vs.dropLast := by
  rw [List.dropLast_eq_take, List.dropLast_eq_take, h.length]
  exact h.take _
theorem Reps.ints : ∀ {ns : List Int} {vs : List V}, Reps K F (ns.map .int) vs ↔ vs = ns.map V.int
  | [], vs => by simp [Reps]
  | n :: ns, vs => by
    constructor
    · intro h
      obtain ⟨v, r, rfl, x, y⟩ := Reps.inv h
      unfold Rep at x
      rw [x, Reps.ints.mp y]; rfl
    · intro h
      subst h
      exact Reps.cons (by unfold Rep; rfl) (Reps.ints.mpr rfl)
theorem Rep.int {i : Int} : Rep K F (.int i) (.int i) := by unfold Rep; rfl
theorem Rep.bl {b : Bool} : Rep K F (.bl b) (.bl b) := by unfold Rep; rfl
theorem Rep.str {x : Str} : Rep K F (.str x) (.str x) := by unfold Rep; rfl
theorem Rep.non : Rep K F .non .non := by unfold Rep; rfl
end

/-! ### the environment: what a slot is known to hold -/
inductive Slot where
  | emp | val (p : PV) | own (xs : List PV)
abbrev Rho := List Slot

structure Exc where
  cls : Str
  fs : List Str
  args : List PV

inductive Res (α : Type) where
  | ok (a : α) | exc (x : Exc) (ρ : Rho) | bad
def Res.bnd {α β : Type} (r : Res (α × Rho)) (f : α → Rho → Res β) : Res β := match r with
  | .ok (a, ρ) => f a ρ | .exc x ρ => .exc x ρ | .bad => .bad
@[simp] theorem Res.bnd_ok {α β : Type} (a : α) (ρ : Rho) (f : α → Rho → Res β) : (Res.ok (a, ρ)).bnd f = f a ρ := rfl
@[simp] theorem Res.bnd_exc {α β : Type} (x : Exc) (ρ : Rho) (f : α → Rho → Res β) : (Res.exc x ρ : Res (α × Rho)).bnd f = .exc x ρ := rfl
@[simp] theorem Res.bnd_bad {α β : Type} (f : α → Rho → Res β) : (Res.bad : Res (α × Rho)).bnd f = .bad := rfl
/-- of an answer, with the environment as it is -/
def Res.of {α : Type} (o : Option α) (ρ : Rho) : Res (α × Rho) := match o with
  | some a => .ok (a, ρ) | none => .bad
@[simp] theorem Res.of_some {α : Type} (a : α) (ρ : Rho) : Res.of (some a) ρ = .ok (a, ρ) := rfl
@[simp] theorem Res.of_none {α : Type} (ρ : Rho) : Res.of (none : Option α) ρ = .bad := rfl

abbrev M := Rho → Res (PV × Rho)
abbrev MT := Rho → Res (Bool × Rho)
abbrev MA := Rho → Res (List PV × Rho)
/-- a mirror that gives a new list of one's own -/
abbrev MF := Rho → Res (List PV × Rho)

structure Good (K : PySem.W.Frag) (F : Hp) (ρ : Rho) (σ : St) (H : Hp) : Prop where
  sub : Same F H
  len : ρ.length = σ.length
  val : ∀ (i : Nat) p, ρ[i]? = some (.val p) → ∃ v, σ[i]? = some (some v) ∧ Rep K F p v
  own : ∀ (i : Nat) xs, ρ[i]? = some (.own xs) → ∃ a vs, σ[i]? = some (some (.ref a)) ∧ F a = none ∧ H a = some (.lst vs) ∧ Reps K F xs vs
  apart : ∀ (i j : Nat) xs ys a, ρ[i]? = some (.own xs) → ρ[j]? = some (.own ys) → σ[i]? = some (some (.ref a)) → σ[j]? = some (some (.ref a)) → i = j

/-- not at an own slot -/
def NotOwn (ρ : Rho) (σ : St) (q : Addr) : Prop := ∀ (i : Nat) xs, ρ[i]? = some (.own xs) → σ[i]? ≠ some (some (.ref q))

structure Stp (σ : St) (F : Hp) (ρ : Rho) (H F' : Hp) (ρ' : Rho) (H' : Hp) : Prop where
  ff : Same F F'
  os : ∀ (i : Nat) xs, ρ'[i]? = some (.own xs) → ∃ ys, ρ[i]? = some (.own ys)
  kp : ∀ q o, H q = some o → NotOwn ρ σ q → H' q = some o
  nf : ∀ q o, H q = some o → F q = none → NotOwn ρ σ q → F' q = none
  ex : ∀ q, H' q = none → H q = none
section
variable {K : PySem.W.Frag} {σ : St} {F F1 F2 F' H H1 H2 H' : Hp} {ρ ρ1 ρ2 ρ' : Rho}
theorem Stp.refl : Stp σ F ρ H F ρ H := ⟨Same.refl _, fun _ xs h => ⟨xs, h⟩, fun _ _ h _ => h, fun _ _ _ h _ => h, fun _ h => h⟩
theorem NotOwn.sub {q : Addr} (h : NotOwn ρ σ q) (os : ∀ (i : Nat) xs, ρ'[i]? = some (.own xs) → ∃ ys, ρ[i]? = some (.own ys)) : NotOwn ρ' σ q := fun i xs e => by
  obtain ⟨ys, e'⟩ := os i xs e
  exact h i ys e'
theorem Stp.trans (a : Stp σ F ρ H F1 ρ1 H1) (b : Stp σ F1 ρ1 H1 F2 ρ2 H2) : Stp σ F ρ H F2 ρ2 H2 :=
  ⟨a.ff.trans b.ff, fun i xs e => by obtain ⟨ys, e'⟩ := b.os i xs e; exact a.os i ys e', fun q o e n => b.kp q o (a.kp q o e n) (n.sub a.os), fun q o e f n => b.nf q o (a.kp q o e n) (a.nf q o e f n) (n.sub a.os), fun q h => a.ex q (b.ex q h)⟩
theorem Same.upd {G : Hp} {p : Addr} {o : HO} (h : G p = none) : Same G (upd G p o) := fun b x e => by
  rw [upd_ne (ne_of_none e h)]; exact e
theorem Good.fnone {p : Addr} (g : Good K F ρ σ H) (h : H p = none) : F p = none := g.sub.free h
/-- a new object, known for good -/
theorem Good.alloc {p : Addr} {o : HO} (g : Good K F ρ σ H) (h : H p = none) : Good K (upd F p o) ρ σ (upd H p o) := by
  have f := g.fnone h
  have sF : Same F (L2.upd F p o) := Same.upd f
  refine ⟨fun b x e => ?_, g.len, fun i q e => ?_, fun i xs e => ?_, g.apart⟩
  · by_cases hb : b = p
    · subst hb; rw [upd_same] at e ⊢; exact e
    · rw [upd_ne hb] at e ⊢; exact g.sub b x e
  · obtain ⟨v, e1, e2⟩ := g.val i q e
    exact ⟨v, e1, Rep.mono sF _ _ e2⟩
  · obtain ⟨a, vs, e1, e2, e3, e4⟩ := g.own i xs e
    have ne : a ≠ p := ne_of_none e3 h
    exact ⟨a, vs, e1, by rw [upd_ne ne]; exact e2, by rw [upd_ne ne]; exact e3, Reps.mono sF _ _ e4⟩
theorem Stp.alloc {p : Addr} {o : HO} (g : Good K F ρ σ H) (h : H p = none) : Stp σ F ρ H (upd F p o) ρ (upd H p o) :=
  ⟨Same.upd (g.fnone h), fun _ xs e => ⟨xs, e⟩, fun q x e _ => by rw [upd_ne (ne_of_none e h)]; exact e, fun q x e f _ => by rw [upd_ne (ne_of_none e h)]; exact f, fun q e => by
    by_cases z : q = p
    · rw [z]; exact h
    · rw [upd_ne z] at e; exact e⟩
/-- a new object, not known for good -/
theorem Good.lay {p : Addr} {o : HO} (g : Good K F ρ σ H) (h : H p = none) : Good K F ρ σ (upd H p o) := by
  refine ⟨fun b x e => ?_, g.len, g.val, fun i xs e => ?_, g.apart⟩
  · have := g.sub b x e
    rw [upd_ne (ne_of_none this h)]; exact this
  · obtain ⟨a, vs, e1, e2, e3, e4⟩ := g.own i xs e
    exact ⟨a, vs, e1, e2, by rw [upd_ne (ne_of_none e3 h)]; exact e3, e4⟩
theorem Stp.lay {p : Addr} {o : HO} (h : H p = none) : Stp σ F ρ H F ρ (upd H p o) :=
  ⟨Same.refl _, fun _ xs e => ⟨xs, e⟩, fun q x e _ => by rw [upd_ne (ne_of_none e h)]; exact e, fun _ _ _ f _ => f, fun q e => by
    by_cases z : q = p
    · rw [z]; exact h
    · rw [upd_ne z] at e; exact e⟩
/-- what stands at p, not at an own slot, is known for good from now on -/
theorem Good.freeze {p : Addr} {o : HO} (g : Good K F ρ σ H) (h : H p = some o) (hf : F p = none) (n : NotOwn ρ σ p) : Good K (upd F p o) ρ σ H := by
  have sF : Same F (L2.upd F p o) := Same.upd hf
  refine ⟨fun b x e => ?_, g.len, fun i q e => ?_, fun i xs e => ?_, g.apart⟩
  · by_cases hb : b = p
    · subst hb; rw [upd_same] at e; rw [h]; exact e
    · rw [upd_ne hb] at e; exact g.sub b x e
  · obtain ⟨v, e1, e2⟩ := g.val i q e
    exact ⟨v, e1, Rep.mono sF _ _ e2⟩
  · obtain ⟨a, vs, e1, e2, e3, e4⟩ := g.own i xs e
    have ne : a ≠ p := fun z => n i xs e (by rw [e1, z])
    exact ⟨a, vs, e1, by rw [upd_ne ne]; exact e2, e3, Reps.mono sF _ _ e4⟩
theorem get_set {α : Type} {l : List α} {i j : Nat} {x y : α} (h : (l.set i x)[j]? = some y) : (i = j ∧ x = y) ∨ (i ≠ j ∧ l[j]? = some y) := by
  by_cases e : i = j
  · subst e
    rw [List.getElem?_set] at h
    simp at h
    exact .inl ⟨rfl, h.2⟩
  · rw [List.getElem?_set_ne e] at h
    exact .inr ⟨e, h⟩
/-- an own slot is known for good from now on -/
theorem Good.frzSlot {i : Nat} {xs : List PV} (g : Good K F ρ σ H) (h : ρ[i]? = some (.own xs)) : ∃ a vs, σ[i]? = some (some (.ref a)) ∧ Good K (upd F a (.lst vs)) (ρ.set i (.val (.lst xs))) σ H ∧
    Stp σ F ρ H (upd F a (.lst vs)) (ρ.set i (.val (.lst xs))) H ∧ Rep K (upd F a (.lst vs)) (.lst xs) (.ref a) := by
  obtain ⟨a, vs, e1, e2, e3, e4⟩ := g.own i xs h
  have sF : Same F (L2.upd F a (.lst vs)) := Same.upd e2
  have rp : Rep K (L2.upd F a (.lst vs)) (.lst xs) (.ref a) := by
    unfold Rep
    exact ⟨a, vs, rfl, upd_same, Reps.mono sF _ _ e4⟩
  refine ⟨a, vs, e1, ⟨fun b x e => ?_, by rw [List.length_set]; exact g.len, fun j q e => ?_, fun j ys e => ?_, fun j k ys zs b e1' e2' e3' e4' => ?_⟩, ⟨sF, fun j ys e => ?_, fun _ _ q _ => q, fun q o e f n => ?_, fun _ h => h⟩, rp⟩
  · by_cases hb : b = a
    · subst hb; rw [upd_same] at e; rw [e3]; exact e
    · rw [upd_ne hb] at e; exact g.sub b x e
  · rcases get_set e with ⟨rfl, z⟩ | ⟨_, z⟩
    · cases z
      exact ⟨_, e1, rp⟩
    · obtain ⟨v, f1, f2⟩ := g.val j q z
      exact ⟨v, f1, Rep.mono sF _ _ f2⟩
  · rcases get_set e with ⟨rfl, z⟩ | ⟨ne, z⟩
    · cases z
    · obtain ⟨b, ws, f1, f2, f3, f4⟩ := g.own j ys z
      have nb : b ≠ a := fun q => ne (g.apart i j xs ys a h z e1 (by rw [f1, q]))
      exact ⟨b, ws, f1, by rw [upd_ne nb]; exact f2, f3, Reps.mono sF _ _ f4⟩
  · rcases get_set e1' with ⟨rfl, z⟩ | ⟨_, z⟩
    · cases z
    · rcases get_set e2' with ⟨rfl, z'⟩ | ⟨_, z'⟩
      · cases z'
      · exact g.apart j k ys zs b z z' e3' e4'
  · rcases get_set e with ⟨rfl, z⟩ | ⟨_, z⟩
    · cases z
    · exact ⟨ys, z⟩
  · have nq : q ≠ a := fun z => n i xs h (by rw [e1, z])
    rw [upd_ne nq]; exact f
/-- an own list is changed -/
theorem Good.write {i : Nat} {xs ys : List PV} {a : Addr} {us : List V} (g : Good K F ρ σ H) (h : ρ[i]? = some (.own xs)) (hs : σ[i]? = some (some (.ref a))) (r : Reps K F ys us) :
    Good K F (ρ.set i (.own ys)) σ (upd H a (.lst us)) ∧ Stp σ F ρ H F (ρ.set i (.own ys)) (upd H a (.lst us)) := by
  obtain ⟨a', vs, e1, e2, e3, e4⟩ := g.own i xs h
  rw [hs] at e1; cases e1
  have hi : i < ρ.length := by
    by_cases z : i < ρ.length
    · exact z
    · rw [List.getElem?_eq_none (by omega)] at h; cases h
  refine ⟨⟨fun b x e => ?_, by rw [List.length_set]; exact g.len, fun j q e => ?_, fun j zs e => ?_, fun j k zs ws b f1 f2 f3 f4 => ?_⟩, ⟨Same.refl _, fun j zs e => ?_, fun q o e n => ?_, fun _ _ _ f _ => f, fun q e => ?_⟩⟩
  · have nb : b ≠ a := fun z => by rw [z, e2] at e; cases e
    rw [upd_ne nb]; exact g.sub b x e
  · rcases get_set e with ⟨rfl, z⟩ | ⟨_, z⟩
    · cases z
    · exact g.val j q z
  · rcases get_set e with ⟨rfl, z⟩ | ⟨ne, z⟩
    · cases z
      exact ⟨a, us, hs, e2, upd_same, r⟩
    · obtain ⟨b, ws, f1, f2, f3, f4⟩ := g.own j zs z
      have nb : b ≠ a := fun q => ne (g.apart i j xs zs a h z hs (by rw [f1, q]))
      exact ⟨b, ws, f1, f2, by rw [upd_ne nb]; exact f3, f4⟩
  · have get : ∀ {m : Nat} {us' : List PV}, (ρ.set i (.own ys))[m]? = some (.own us') → ∃ us'', ρ[m]? = some (.own us'') := fun {m us'} e => by
      rcases get_set e with ⟨rfl, z⟩ | ⟨_, z⟩
      · exact ⟨xs, h⟩
      · exact ⟨_, z⟩
    obtain ⟨z1, q1⟩ := get f1
    obtain ⟨z2, q2⟩ := get f2
    exact g.apart j k z1 z2 b q1 q2 f3 f4
  · rcases get_set e with ⟨rfl, z⟩ | ⟨_, z⟩
    · exact ⟨xs, h⟩
    · exact ⟨zs, z⟩
  · have nq : q ≠ a := fun z => n i xs h (by rw [hs, z])
    rw [upd_ne nq]; exact e
  · by_cases z : q = a
    · rw [z, upd_same] at e; cases e
    · rw [upd_ne z] at e; exact e
end

/-! ### exceptions -/
def ExcAt (K : PySem.W.Frag) (mg : Str → Option Value) (F : Hp) (x : Exc) (cls : Value) (d : Option Addr) : Prop :=
  ∃ C, mg x.cls = some (.ref C) ∧ cls = .ref C ∧
    (match x.fs with
     | [] => d = none
     | _ => ∃ da vs, d = some da ∧ F da = some (.xd (x.fs.zip vs)) ∧ Reps K F x.args vs)

/-! ### what is wanted behind a mirror's answer -/
/-- how an answer lies in the heap: F what is known for good, then the environment and the heap -/
abbrev RepT (α β : Type) := Hp → Hp → Rho → Hp → α → β → Prop
def repE (K : PySem.W.Frag) : RepT PV V := fun _ F _ _ p v => Rep K F p v
def repA (K : PySem.W.Frag) : RepT (List PV) (List V) := fun _ F _ _ p v => Reps K F p v
def repT : RepT Bool Bool := fun _ _ _ _ b c => b = c
/-- a new list, not yet anybody's -/
def repF (K : PySem.W.Frag) (σ : St) : RepT (List PV) V := fun H0 F ρ H xs v => ∃ p vs, v = .ref p ∧ H0 p = none ∧ F p = none ∧ NotOwn ρ σ p ∧ H p = some (.lst vs) ∧ Reps K F xs vs
class RepM {α β : Type} (rep : RepT α β) : Prop where
  mono : ∀ (H H1 F : Hp) (ρ : Rho) (H' : Hp) (p : α) (v : β), (∀ q, H1 q = none → H q = none) → rep H1 F ρ H' p v → rep H F ρ H' p v
instance (K : PySem.W.Frag) : RepM (repE K) := ⟨fun _ _ _ _ _ _ _ _ h => h⟩
instance (K : PySem.W.Frag) : RepM (repA K) := ⟨fun _ _ _ _ _ _ _ _ h => h⟩
instance : RepM repT := ⟨fun _ _ _ _ _ _ _ _ h => h⟩
instance (K : PySem.W.Frag) (σ : St) : RepM (repF K σ) := ⟨fun _ _ _ _ _ _ _ k ⟨p, vs, a, b, c⟩ => ⟨p, vs, a, k p b, c⟩⟩
def Post {α β : Type} (rep : RepT α β) (X : Cx) (W : WX) (F : Hp) (ρ : Rho) (σ : St) (H : Hp) (r : Res (α × Rho)) (Q : β → Hp → Prop) : Prop := match r with
  | .ok (p, ρ') => ∀ F' H' v, Stp σ F ρ H F' ρ' H' → Good X.K F' ρ' σ H' → rep H F' ρ' H' p v → Q v H'
  | .exc x ρ' => ∀ F' H' cls d, Stp σ F ρ H F' ρ' H' → Good X.K F' ρ' σ H' → ExcAt X.K X.mg F' x cls d → W cls d σ H'
  | .bad => False
theorem Post.next {α β : Type} {rep : RepT α β} [RepM rep] {X : Cx} {W : WX} {F F1 : Hp} {ρ ρ1 : Rho} {σ : St} {H H1 : Hp} {r : Res (α × Rho)} {Q : β → Hp → Prop} (st : Stp σ F ρ H F1 ρ1 H1) (h : Post rep X W F ρ σ H r Q) : Post rep X W F1 ρ1 σ H1 r Q := by
  match r, h with
  | .ok (p, ρ'), h => exact fun F' H' v s g q => h F' H' v (st.trans s) g (RepM.mono _ _ _ _ _ _ _ st.ex q)
  | .exc x ρ', h => exact fun F' H' cls d s g q => h F' H' cls d (st.trans s) g q
theorem Post.imp {α β : Type} {rep : RepT α β} {X : Cx} {W : WX} {F : Hp} {ρ : Rho} {σ : St} {H : Hp} {r : Res (α × Rho)} {Q Q' : β → Hp → Prop} (h : Post rep X W F ρ σ H r Q) (k : ∀ v H, Q v H → Q' v H) : Post rep X W F ρ σ H r Q' := by
  match r, h with
  | .ok (p, ρ'), h => exact fun F' H' v s g q => k _ _ (h F' H' v s g q)
  | .exc x ρ', h => exact h
/-- one thing, then another -/
theorem Post.bind {α β α' β' : Type} {rep : RepT α β} {rep' : RepT α' β'} [RepM rep'] {X : Cx} {W : WX} {F : Hp} {ρ : Rho} {σ : St} {H : Hp} {r : Res (α × Rho)} {f : α → Rho → Res (α' × Rho)} {Q' : β' → Hp → Prop} {R : β → Hp → Prop}
    (hp : Post rep' X W F ρ σ H (r.bnd f) Q')
    (k : ∀ F1 ρ1 H1 p v, Stp σ F ρ H F1 ρ1 H1 → Good X.K F1 ρ1 σ H1 → rep H F1 ρ1 H1 p v → Post rep' X W F1 ρ1 σ H1 (f p ρ1) Q' → R v H1) : Post rep X W F ρ σ H r R := by
  match r, hp with
  | .ok (p, ρ1), hp => exact fun F1 H1 v st g rp => k F1 ρ1 H1 p v st g rp (Post.next st hp)
  | .exc x ρ', h => exact h

/-- an expression, by what it comes to -/
@[irreducible] def WE (X : Cx) (e : Expr) : TE := fun σ H Q => ∀ (pins : List (Addr × Obj)) (s : Shared), Inv X pins σ H s → wpAny (model X.prog X.w) X.A (eval e X.env) (EP X pins σ Q) X.xe s
@[irreducible] def WT (X : Cx) (e : Expr) : TT := fun σ H Q => ∀ (pins : List (Addr × Obj)) (s : Shared), Inv X pins σ H s → wpAny (model X.prog X.w) X.A (isTrue e X.env (eval e X.env)) (TP X pins σ Q) X.xe s
@[irreducible] def WA (X : Cx) (es : List Expr) : TA := fun σ H Q => ∀ (pos : Pos) (pins : List (Addr × Obj)) (s : Shared), Inv X pins σ H s → wpAny (model X.prog X.w) X.A (spliced (backTo pos (starEach es X.env))) (AP X pins σ Q) X.xe s
section
variable {X : Cx} {e : Expr} {es : List Expr}
theorem pe_we : PE X e (WE X e) := ⟨fun pins s _ _ _ I h => by unfold WE at h; exact h pins s I⟩
theorem pt_wt : PT X e (WT X e) := ⟨fun pins s _ _ _ I h => by unfold WT at h; exact h pins s I⟩
theorem pa_wa : PA X es (WA X es) := ⟨fun pos pins s _ _ _ I h => by unfold WA at h; exact h pos pins s I⟩
theorem we_of {t : TE} {σ : St} {H : Hp} {Q : VK} (p : PE X e t) (h : t σ H Q) : WE X e σ H Q := by unfold WE; exact fun pins s I => p.run pins s σ H Q I h
theorem wt_of {t : TT} {σ : St} {H : Hp} {Q : Bool → Hp → Prop} (p : PT X e t) (h : t σ H Q) : WT X e σ H Q := by unfold WT; exact fun pins s I => p.run pins s σ H Q I h
theorem wa_of {t : TA} {σ : St} {H : Hp} {Q : List V → Hp → Prop} (p : PA X es t) (h : t σ H Q) : WA X es σ H Q := by unfold WA; exact fun pos pins s I => p.run pos pins s σ H Q I h
end
/-- m is what e comes to -/
def SndE (X : Cx) (W : WX) (e : Expr) (m : M) : Prop :=
  ∀ (F : Hp) (ρ : Rho) (σ : St) (H : Hp) (Q : VK), Good X.K F ρ σ H → Post (repE X.K) X W F ρ σ H (m ρ) Q → WE X e σ H Q
def SndT (X : Cx) (W : WX) (e : Expr) (m : MT) : Prop :=
  ∀ (F : Hp) (ρ : Rho) (σ : St) (H : Hp) (Q : Bool → Hp → Prop), Good X.K F ρ σ H → Post repT X W F ρ σ H (m ρ) Q → WT X e σ H Q
def SndA (X : Cx) (W : WX) (es : List Expr) (m : MA) : Prop :=
  ∀ (F : Hp) (ρ : Rho) (σ : St) (H : Hp) (Q : List V → Hp → Prop), Good X.K F ρ σ H → Post (repA X.K) X W F ρ σ H (m ρ) Q → WA X es σ H Q
def SndF (X : Cx) (W : WX) (e : Expr) (m : MF) : Prop :=
  ∀ (F : Hp) (ρ : Rho) (σ : St) (H : Hp) (Q : VK), Good X.K F ρ σ H → Post (repF X.K σ) X W F ρ σ H (m ρ) Q → WE X e σ H Q
section
variable {X : Cx} {W : WX} {a b e : Expr} {F : Hp} {ρ : Rho} {σ : St} {H : Hp} {α' β' : Type} {rep' : RepT α' β'} [RepM rep'] {Q' : β' → Hp → Prop}
theorem SndE.then {m : M} {f : PV → Rho → Res (α' × Rho)} {R : VK} (ha : SndE X W a m) (g : Good X.K F ρ σ H) (hp : Post rep' X W F ρ σ H ((m ρ).bnd f) Q')
    (k : ∀ F1 ρ1 H1 p v, Stp σ F ρ H F1 ρ1 H1 → Good X.K F1 ρ1 σ H1 → Rep X.K F1 p v → Post rep' X W F1 ρ1 σ H1 (f p ρ1) Q' → R v H1) : WE X a σ H R :=
  ha F ρ σ H R g (Post.bind hp k)
theorem SndT.then {m : MT} {f : Bool → Rho → Res (α' × Rho)} {R : Bool → Hp → Prop} (ha : SndT X W a m) (g : Good X.K F ρ σ H) (hp : Post rep' X W F ρ σ H ((m ρ).bnd f) Q')
    (k : ∀ F1 ρ1 H1 c, Stp σ F ρ H F1 ρ1 H1 → Good X.K F1 ρ1 σ H1 → Post rep' X W F1 ρ1 σ H1 (f c ρ1) Q' → R c H1) : WT X a σ H R :=
  ha F ρ σ H R g (Post.bind hp fun F1 ρ1 H1 p v st g e hq => by cases e; exact k F1 ρ1 H1 _ st g hq)
theorem SndA.then {es : List Expr} {m : MA} {f : List PV → Rho → Res (α' × Rho)} {R : List V → Hp → Prop} (ha : SndA X W es m) (g : Good X.K F ρ σ H) (hp : Post rep' X W F ρ σ H ((m ρ).bnd f) Q')
    (k : ∀ F1 ρ1 H1 p v, Stp σ F ρ H F1 ρ1 H1 → Good X.K F1 ρ1 σ H1 → Reps X.K F1 p v → Post rep' X W F1 ρ1 σ H1 (f p ρ1) Q' → R v H1) : WA X es σ H R :=
  ha F ρ σ H R g (Post.bind hp k)
theorem SndF.then {m : MF} {f : List PV → Rho → Res (α' × Rho)} {R : VK} (ha : SndF X W a m) (g : Good X.K F ρ σ H) (hp : Post rep' X W F ρ σ H ((m ρ).bnd f) Q')
    (k : ∀ F1 ρ1 H1 xs v, Stp σ F ρ H F1 ρ1 H1 → Good X.K F1 ρ1 σ H1 → repF X.K σ H F1 ρ1 H1 xs v → Post rep' X W F1 ρ1 σ H1 (f xs ρ1) Q' → R v H1) : WE X a σ H R :=
  ha F ρ σ H R g (Post.bind hp k)
/-- the answer is there, nothing else has changed -/
theorem Post.here {α β : Type} {rep : RepT α β} {o : Option α} {p : α} {v : β} {Q : β → Hp → Prop} (hp : Post rep X W F ρ σ H (Res.of o ρ) Q) (e : o = some p) (g : Good X.K F ρ σ H) (r : rep H F ρ H p v) : Q v H := by
  subst e
  exact hp F H v Stp.refl g r
theorem Post.some {α β : Type} {rep : RepT α β} {o : Option α} {Q : β → Hp → Prop} (hp : Post rep X W F ρ σ H (Res.of o ρ) Q) : ∃ p, o = some p := by
  cases o with
  | none => exact hp.elim
  | some p => exact ⟨p, rfl⟩
end
/-- a new list taken as a value -/
def mFrz (m : MF) : M := fun ρ => (m ρ).bnd fun xs ρ' => .ok (.lst xs, ρ')
theorem SndF.snd {X : Cx} {W : WX} {e : Expr} {m : MF} (h : SndF X W e m) : SndE X W e (mFrz m) := fun F ρ σ H Q g hp => by
  unfold mFrz at hp
  refine h F ρ σ H Q g ?_
  match hm : m ρ, hp with
  | .exc x ρ', hp => exact hp
  | .ok (xs, ρ'), hq0 =>
  intro F' H' v st g' rf
  obtain ⟨p, vs, rfl, hn, hf, no, hv, rv⟩ := rf
  have sF : Same F' (L2.upd F' p (.lst vs)) := Same.upd hf
  refine hq0 (L2.upd F' p (.lst vs)) H' (.ref p) ⟨st.ff.trans sF, st.os, st.kp, fun q o e f n => ?_, st.ex⟩ (g'.freeze hv hf no) ?_
  · rw [upd_ne (ne_of_none e hn)]; exact st.nf q o e f n
  show Rep _ _ _ _
  unfold Rep
  exact ⟨p, vs, rfl, upd_same, Reps.mono sF _ _ rv⟩
end Ev

set_option Elab.async false
set_option linter.all false
set_option maxRecDepth 100000
namespace Ev
open PySem L2
section
variable {X : Cx} {W : WX} {pos : Pos}
/-! ### names, constants -/
def mName (i : Nat) : M := fun ρ => match ρ[i]? with
  | some (.val p) => .ok (p, ρ)
  | some (.own xs) => .ok (.lst xs, ρ.set i (.val (.lst xs)))
  | _ => .bad
theorem s_name {x : Str} (i : Nat) (h : PE X (.Name x pos) (tVar i)) : SndE X W (.Name x pos) (mName i) := fun F ρ σ H Q g hp => by
  refine we_of h ?_
  unfold mName at hp
  split at hp
  · rename_i p e
    obtain ⟨v, e1, e2⟩ := g.val i p e
    exact ⟨v, e1, hp F H v Stp.refl g e2⟩
  · rename_i xs e
    obtain ⟨a, vs, e1, g', st, rp⟩ := g.frzSlot e
    exact ⟨.ref a, e1, hp _ H _ st g' rp⟩
  · exact hp.elim
def mC (p : PV) : M := fun ρ => .ok (p, ρ)
theorem s_const {e : Expr} {v : V} {p : PV} (h : PE X e (tC v)) (r : ∀ F, Rep X.K F p v) : SndE X W e (mC p) := fun F ρ σ H Q g hp =>
  we_of h (show Q v H from hp F H v Stp.refl g (r F))
theorem s_int {i : Int} {j pos} : SndE X W (.Constant (.int i) j pos) (mC (.int i)) := s_const pe_int fun _ => Rep.int
theorem s_str {x : Str} {j pos} : SndE X W (.Constant (.str x) j pos) (mC (.str x)) := s_const pe_str fun _ => Rep.str
theorem s_bl {b : Bool} {j pos} : SndE X W (.Constant (.bool b) j pos) (mC (.bl b)) := s_const pe_bl fun _ => Rep.bl
theorem s_non {j pos} : SndE X W (.Constant .none j pos) (mC .non) := s_const pe_non fun _ => Rep.non
theorem s_gint {x : Str} {i : Int} (hg : Gl X x) (hm : ∃ t, X.mg x = some (.int i t)) (hd : (x == ("__debug__" : Str)) = false := by decide) : SndE X W (.Name x pos) (mC (.int i)) := by
  obtain ⟨t, hm⟩ := hm
  exact s_const (pe_glob (v := .int i) hg hm ⟨t, rfl⟩ hd) fun _ => Rep.int
theorem s_gstr {x y : Str} (hg : Gl X x) (hm : ∃ t, X.mg x = some (.str y t)) (hd : (x == ("__debug__" : Str)) = false := by decide) : SndE X W (.Name x pos) (mC (.str y)) := by
  obtain ⟨t, hm⟩ := hm
  exact s_const (pe_glob (v := .str y) hg hm ⟨t, rfl⟩ hd) fun _ => Rep.str
theorem s_ty {x : Str} {n : String} (hg : Gl X x) (hm : X.mg x = none) (hv : bootBuiltins x = some (.type n)) (hn : x ≠ "__name__" := by decide) (hd : (x == ("__debug__" : Str)) = false := by decide) : SndE X W (.Name x pos) (mC (.ty n)) :=
  s_const (pe_bltn (v := .ty n) hg hm hv rfl hn hd) fun _ => by unfold Rep; rfl

/-! ### two-place operations -/
def m2 (op : PV → PV → Option PV) (a b : M) : M := fun ρ => (a ρ).bnd fun p ρ1 => (b ρ1).bnd fun q ρ2 => Res.of (op p q) ρ2
/-- an operation's reading serves what op tells -/
def Op2 (X : Cx) (W : WX) (r : R2) (op : PV → PV → Option PV) : Prop :=
  ∀ (F : Hp) (ρ : Rho) (σ : St) (H : Hp) (x y : V) (p q z : PV) (Q : VK), Good X.K F ρ σ H → Rep X.K F p x → Rep X.K F q y → op p q = some z → Post (repE X.K) X W F ρ σ H (.ok (z, ρ)) Q → r x y H Q
theorem s_two {a b e : Expr} {ma mb : M} {op : PV → PV → Option PV} {r : R2} (hpe : PE X e (tOp r (WE X a) (WE X b))) (h2 : Op2 X W r op) (ha : SndE X W a ma) (hb : SndE X W b mb) : SndE X W e (m2 op ma mb) := fun F ρ σ H Q g hp => by
  refine we_of hpe ?_
  refine ha.then g hp fun F1 ρ1 H1 p x _ g1 rp hp1 => ?_
  refine hb.then g1 hp1 fun F2 ρ2 H2 q y st2 g2 rq hp2 => ?_
  obtain ⟨z, ez⟩ := hp2.some
  refine h2 F2 ρ2 σ H2 x y p q z Q g2 (Rep.mono st2.ff _ _ rp) rq ez ?_
  rw [ez] at hp2
  exact hp2
theorem s_bin {a b : Expr} {ma mb : M} {o : Operator} {op : PV → PV → Option PV} {r : R2} (ho : OpR X (binaryOp o) r) (h2 : Op2 X W r op) (ha : SndE X W a ma) (hb : SndE X W b mb) : SndE X W (.BinOp a o b pos) (m2 op ma mb) :=
  s_two (pe_op ho pe_we pe_we) h2 ha hb
theorem s_cmp {a b : Expr} {ma mb : M} {o : CmpOp} {op : PV → PV → Option PV} {r : R2} (ho : OpR X (compareOp o) r) (h2 : Op2 X W r op) (ha : SndE X W a ma) (hb : SndE X W b mb) (hm : behindInMarks o b = false) : SndE X W (.Compare a [o] [b] pos) (m2 op ma mb) :=
  s_two (pe_cmpR ho pe_we pe_we hm) h2 ha hb
theorem OpR.or {f : Value → Value → Sem Value} {r r' : R2} (h : OpR X f r) (h' : OpR X f r') : OpR X f (fun x y H Q => r x y H Q ∨ r' x y H Q) := fun pins s σ H x y v u Q I rx ry z =>
  z.elim (h pins s σ H x y v u Q I rx ry) (h' pins s σ H x y v u Q I rx ry)
theorem Op2.int0 {g : Int → Int → V} {op : PV → PV → Option PV} {k : Int → Int → PV} (hk : ∀ F i j, Rep X.K F (k i j) (g i j)) (h : ∀ p q z, op p q = some z → ∃ i j, p = .int i ∧ q = .int j ∧ z = k i j) : Op2 X W (rI0 g) op := fun F ρ σ H x y p q z Q gd rp rq e hp => by
  obtain ⟨i, j, rfl, rfl, rfl⟩ := h p q z e
  unfold Rep at rp rq
  exact ⟨i, j, rp, rq, hp F H _ Stp.refl gd (hk F i j)⟩
theorem Op2.int {C : Int → Int → Prop} {g : Int → Int → V} {op : PV → PV → Option PV} {k : Int → Int → PV} (hk : ∀ F i j, Rep X.K F (k i j) (g i j)) (h : ∀ p q z, op p q = some z → ∃ i j, p = .int i ∧ q = .int j ∧ C i j ∧ z = k i j) : Op2 X W (rI C g) op := fun F ρ σ H x y p q z Q gd rp rq e hp => by
  obtain ⟨i, j, rfl, rfl, c, rfl⟩ := h p q z e
  unfold Rep at rp rq
  exact ⟨i, j, rp, rq, c, hp F H _ Stp.refl gd (hk F i j)⟩
/-- a new list, a new tuple -/
theorem Post.newL {F H : Hp} {ρ : Rho} {σ : St} {xs : List PV} {vs : List V} {Q : VK} (g : Good X.K F ρ σ H) (hp : Post (repE X.K) X W F ρ σ H (.ok (.lst xs, ρ)) Q) (r : Reps X.K F xs vs) : ∀ p, H p = none → Q (.ref p) (upd H p (.lst vs)) := fun p n => by
  refine hp (L2.upd F p (.lst vs)) _ _ (Stp.alloc g n) (g.alloc n) ?_
  show Rep _ _ _ _
  unfold Rep
  exact ⟨p, vs, rfl, upd_same, Reps.mono (Same.upd (g.fnone n)) _ _ r⟩
theorem Post.newT {F H : Hp} {ρ : Rho} {σ : St} {xs : List PV} {vs : List V} {Q : VK} (g : Good X.K F ρ σ H) (hp : Post (repE X.K) X W F ρ σ H (.ok (.tup xs, ρ)) Q) (r : Reps X.K F xs vs) : ∀ p, H p = none → Q (.ref p) (upd H p (.tup vs)) := fun p n => by
  refine hp (L2.upd F p (.tup vs)) _ _ (Stp.alloc g n) (g.alloc n) ?_
  show Rep _ _ _ _
  unfold Rep
  exact ⟨p, vs, rfl, upd_same, Reps.mono (Same.upd (g.fnone n)) _ _ r⟩

/-! + -/
def pvAdd : PV → PV → Option PV
  | .int i, .int j => some (.int (i + j))
  | .str x, .str y => if x.length + y.length ≤ sizeLine then some (.str (x ++ y)) else none
  | .lst xs, .lst ys => if xs.length + ys.length ≤ sizeLine then some (.lst (xs ++ ys)) else none
  | .tup xs, .tup ys => if xs.length + ys.length ≤ sizeLine then some (.tup (xs ++ ys)) else none
  | _, _ => none
def rAddA (K : PySem.W.Frag) : R2 := fun x y H Q => rI0 (fun i j => .int (i + j)) x y H Q ∨ ((∃ i j, x = .str i ∧ y = .str j ∧ i.length + j.length ≤ sizeLine ∧ Q (.str (i ++ j)) H) ∨ (rCat x y H Q ∨ rCatA K x y H Q))
theorem op_addA : OpR X (binaryOp .Add) (rAddA X.K) := OpR.or op_add (OpR.or op_add_str (OpR.or op_cat op_catA))
theorem add_op2 : Op2 X W (rAddA X.K) pvAdd := fun F ρ σ H x y p q z Q g rp rq e hp => by
  unfold pvAdd at e
  split at e
  · cases e
    unfold Rep at rp rq
    exact .inl ⟨_, _, rp, rq, hp F H _ Stp.refl g Rep.int⟩
  · split at e
    · rename_i hl
      cases e
      unfold Rep at rp rq
      exact .inr (.inl ⟨_, _, rp, rq, hl, hp F H _ Stp.refl g Rep.str⟩)
    · cases e
  · split at e
    · rename_i xs ys hl
      cases e
      unfold Rep at rp rq
      obtain ⟨a, vs, rfl, h1, h2⟩ := rp
      obtain ⟨b, ws, rfl, h3, h4⟩ := rq
      rw [h2.length, h4.length] at hl
      exact .inr (.inr (.inl ⟨a, b, vs, ws, rfl, rfl, g.sub _ _ h1, g.sub _ _ h3, hl, Post.newL g hp (h2.append h4)⟩))
    · cases e
  · split at e
    · rename_i xs ys hl
      cases e
      unfold Rep at rp rq
      obtain ⟨a, vs, rfl, h1, h2⟩ := rp
      obtain ⟨b, ws, rfl, h3, h4⟩ := rq
      rw [h2.length, h4.length] at hl
      refine .inr (.inr (.inr ⟨a, b, vs, ws, rfl, rfl, SqT.of (g.sub _ _ h1), SqT.of (g.sub _ _ h3), hl, fun e0 => ?_, fun _ e0 => ?_, fun _ _ => Post.newT g hp (h2.append h4)⟩))
      · subst e0
        refine hp F H _ Stp.refl g ?_
        have e1 : xs = [] := List.eq_nil_of_length_eq_zero (by rw [h2.length]; rfl)
        subst e1
        show Rep _ _ _ _
        unfold Rep
        exact ⟨b, ws, rfl, h3, h4⟩
      · subst e0
        refine hp F H _ Stp.refl g ?_
        have e1 : ys = [] := List.eq_nil_of_length_eq_zero (by rw [h4.length]; rfl)
        subst e1
        rw [List.append_nil]
        show Rep _ _ _ _
        unfold Rep
        exact ⟨a, vs, rfl, h1, h2⟩
    · cases e
  · cases e
theorem s_add {a b : Expr} {ma mb : M} (ha : SndE X W a ma) (hb : SndE X W b mb) : SndE X W (.BinOp a .Add b pos) (m2 pvAdd ma mb) := s_bin op_addA add_op2 ha hb
/-! - -/
def pvSub : PV → PV → Option PV
  | .int i, .int j => some (.int (i - j))
  | _, _ => none
theorem s_sub {a b : Expr} {ma mb : M} (ha : SndE X W a ma) (hb : SndE X W b mb) : SndE X W (.BinOp a .Sub b pos) (m2 pvSub ma mb) :=
  s_bin op_sub (Op2.int0 (k := fun i j => .int (i - j)) (fun _ _ _ => Rep.int) fun p q z e => by
    unfold pvSub at e; split at e <;> cases e; exact ⟨_, _, rfl, rfl, rfl⟩) ha hb
/-! % // ** -/
def pvMod : PV → PV → Option PV
  | .int i, .int j => if 0 < j then some (.int (i % j)) else none
  | _, _ => none
theorem s_mod {a b : Expr} {ma mb : M} (ha : SndE X W a ma) (hb : SndE X W b mb) : SndE X W (.BinOp a .Mod b pos) (m2 pvMod ma mb) :=
  s_bin op_mod (Op2.int (k := fun i j => .int (i % j)) (fun _ _ _ => Rep.int) fun p q z e => by
    unfold pvMod at e
    split at e
    · split at e
      · rename_i h; cases e; exact ⟨_, _, rfl, rfl, h, rfl⟩
      · cases e
    · cases e) ha hb
def pvDiv : PV → PV → Option PV
  | .int i, .int j => if 0 < j ∧ j < 2 ^ 64 then some (.int (i / j)) else none
  | _, _ => none
theorem cdiv_of {i j : Int} (h : 0 < j ∧ j < 2 ^ 64) : CDivW i j := wide_div (b := 64) h.1 (by omega) (by decide) (by decide)
theorem s_div {a b : Expr} {ma mb : M} (ha : SndE X W a ma) (hb : SndE X W b mb) : SndE X W (.BinOp a .FloorDiv b pos) (m2 pvDiv ma mb) :=
  s_bin op_fdivW (Op2.int (k := fun i j => .int (i / j)) (fun _ _ _ => Rep.int) fun p q z e => by
    unfold pvDiv at e
    split at e
    · split at e
      · rename_i h; cases e; exact ⟨_, _, rfl, rfl, cdiv_of h, rfl⟩
      · cases e
    · cases e) ha hb
def pvPow : PV → PV → Option PV
  | .int i, .int j => if 0 ≤ j ∧ j ≤ 1000 ∧ i.natAbs < 2 ^ 64 then some (.int (i ^ j.toNat)) else none
  | _, _ => none
theorem s_pow {a b : Expr} {ma mb : M} (ha : SndE X W a ma) (hb : SndE X W b mb) : SndE X W (.BinOp a .Pow b pos) (m2 pvPow ma mb) :=
  s_bin op_pow (Op2.int (k := fun i j => .int (i ^ j.toNat)) (fun _ _ _ => Rep.int) fun p q z e => by
    unfold pvPow at e
    split at e
    · split at e
      · rename_i h; cases e; exact ⟨_, _, rfl, rfl, ⟨h.1, by omega, h.2.2⟩, rfl⟩
      · cases e
    · cases e) ha hb
/-! * -/
def smallI (i : Int) : Bool := decide (-(2 ^ 64) < i ∧ i < 2 ^ 64)
def pvMul : PV → PV → Option PV
  | .int i, .int j => if smallI i || smallI j then some (.int (i * j)) else none
  | .lst xs, .int k => if -(2 ^ 63) ≤ k ∧ k < 2 ^ 63 ∧ xs.length * k.toNat ≤ sizeLine then some (.lst (List.replicate k.toNat xs).flatten) else none
  | .tup xs, .int k => if xs ≠ [] ∧ 2 ≤ k ∧ k ≤ 1000 ∧ xs.length ≤ 1000 then some (.tup (List.replicate k.toNat xs).flatten) else none
  | _, _ => none
theorem mul_op2 : Op2 X W (fun x y H Q => rI CMul (fun i j => .int (i * j)) x y H Q ∨ (rRep x y H Q ∨ rRepT X.K x y H Q)) pvMul := fun F ρ σ H x y p q z Q g rp rq e hp => by
  unfold pvMul at e
  split at e
  · split at e
    · rename_i i j h
      cases e
      unfold Rep at rp rq
      refine .inl ⟨_, _, rp, rq, ?_, hp F H _ Stp.refl g Rep.int⟩
      simp only [smallI, Bool.or_eq_true, decide_eq_true_eq] at h
      exact h
    · cases e
  · split at e
    · rename_i xs k h
      cases e
      unfold Rep at rp rq
      obtain ⟨a, vs, rfl, h1, h2⟩ := rp
      subst rq
      exact .inr (.inl ⟨a, k, vs, rfl, rfl, g.sub _ _ h1, h.1, h.2.1, by rw [← h2.length]; exact h.2.2, Post.newL g hp (h2.rep _)⟩)
    · cases e
  · split at e
    · rename_i xs k h
      cases e
      unfold Rep at rp rq
      obtain ⟨a, vs, rfl, h1, h2⟩ := rp
      subst rq
      refine .inr (.inr ⟨a, k, vs, rfl, rfl, SqT.of (g.sub _ _ h1), fun z => h.1 ?_, h.2.1, h.2.2.1, by rw [← h2.length]; exact h.2.2.2, Post.newT g hp (h2.rep _)⟩)
      subst z
      exact List.eq_nil_of_length_eq_zero (by rw [h2.length]; rfl)
    · cases e
  · cases e
theorem s_mul {a b : Expr} {ma mb : M} (ha : SndE X W a ma) (hb : SndE X W b mb) : SndE X W (.BinOp a .Mult b pos) (m2 pvMul ma mb) := s_bin (OpR.or op_mul (OpR.or op_rep op_repT)) mul_op2 ha hb

/-! ### comparisons -/
def pvLt : PV → PV → Option PV
  | .int i, .int j => some (.bl (decide (i < j)))
  | _, _ => none
def pvLe : PV → PV → Option PV
  | .int i, .int j => some (.bl (decide (i ≤ j)))
  | _, _ => none
def pvGt : PV → PV → Option PV
  | .int i, .int j => some (.bl (decide (j < i)))
  | _, _ => none
def pvGe : PV → PV → Option PV
  | .int i, .int j => some (.bl (decide (j ≤ i)))
  | _, _ => none
theorem lt_op2 : Op2 X W (rI0 fun i j => .bl (decide (i < j))) pvLt := Op2.int0 (k := fun i j => .bl (decide (i < j))) (fun _ _ _ => Rep.bl) fun p q z e => by
  unfold pvLt at e; split at e <;> cases e; exact ⟨_, _, rfl, rfl, rfl⟩
theorem le_op2 : Op2 X W (rI0 fun i j => .bl (decide (i ≤ j))) pvLe := Op2.int0 (k := fun i j => .bl (decide (i ≤ j))) (fun _ _ _ => Rep.bl) fun p q z e => by
  unfold pvLe at e; split at e <;> cases e; exact ⟨_, _, rfl, rfl, rfl⟩
theorem gt_op2 : Op2 X W (rI0 fun i j => .bl (decide (j < i))) pvGt := Op2.int0 (k := fun i j => .bl (decide (j < i))) (fun _ _ _ => Rep.bl) fun p q z e => by
  unfold pvGt at e; split at e <;> cases e; exact ⟨_, _, rfl, rfl, rfl⟩
theorem ge_op2 : Op2 X W (rI0 fun i j => .bl (decide (j ≤ i))) pvGe := Op2.int0 (k := fun i j => .bl (decide (j ≤ i))) (fun _ _ _ => Rep.bl) fun p q z e => by
  unfold pvGe at e; split at e <;> cases e; exact ⟨_, _, rfl, rfl, rfl⟩
theorem s_lt {a b : Expr} {ma mb : M} (ha : SndE X W a ma) (hb : SndE X W b mb) : SndE X W (.Compare a [.Lt] [b] pos) (m2 pvLt ma mb) := s_cmp op_lt lt_op2 ha hb (nomark _)
theorem s_le {a b : Expr} {ma mb : M} (ha : SndE X W a ma) (hb : SndE X W b mb) : SndE X W (.Compare a [.LtE] [b] pos) (m2 pvLe ma mb) := s_cmp op_le le_op2 ha hb (nomark _)
theorem s_gt {a b : Expr} {ma mb : M} (ha : SndE X W a ma) (hb : SndE X W b mb) : SndE X W (.Compare a [.Gt] [b] pos) (m2 pvGt ma mb) := s_cmp op_gt gt_op2 ha hb (nomark _)
theorem s_ge {a b : Expr} {ma mb : M} (ha : SndE X W a ma) (hb : SndE X W b mb) : SndE X W (.Compare a [.GtE] [b] pos) (m2 pvGe ma mb) := s_cmp op_ge ge_op2 ha hb (nomark _)
/-! is None, is True -/
def pvIs : PV → PV → Option PV
  | .bl a, .bl b => some (.bl (decide (a = b)))
  | .non, .non => some (.bl true)
  | _, .non => some (.bl false)
  | _, _ => none
theorem Rep.notNon {K : PySem.W.Frag} {F : Hp} {p : PV} {v : V} (r : Rep K F p v) (h : p ≠ .non) : v ≠ .non := by
  intro e; subst e
  cases p with
  | non => exact h rfl
  | bl b => unfold Rep at r; cases r
  | int b => unfold Rep at r; cases r
  | str b => unfold Rep at r; cases r
  | ty b => unfold Rep at r; cases r
  | tup xs => unfold Rep at r; obtain ⟨_, _, z, _⟩ := r; cases z
  | lst xs => unfold Rep at r; obtain ⟨_, _, z, _⟩ := r; cases z
  | dic ks xs => unfold Rep at r; obtain ⟨_, _, z, _⟩ := r; cases z
  | scr ns => unfold Rep at r; obtain ⟨_, z, _⟩ := r; cases z
theorem is_op2 : Op2 X W (fun x y H Q => rIsB x y H Q ∨ (y = .non ∧ Q (.bl (decide (x = .non))) H)) pvIs := fun F ρ σ H x y p q z Q g rp rq e hp => by
  unfold pvIs at e
  split at e
  · cases e
    unfold Rep at rp rq
    exact .inl ⟨_, _, rp, rq, hp F H _ Stp.refl g Rep.bl⟩
  · cases e
    unfold Rep at rp rq
    subst rp rq
    exact .inr ⟨rfl, hp F H _ Stp.refl g Rep.bl⟩
  · rename_i hn
    cases e
    have ne : x ≠ .non := rp.notNon (fun z => hn z)
    unfold Rep at rq
    subst rq
    refine .inr ⟨rfl, ?_⟩
    rw [decide_eq_false ne]
    exact hp F H _ Stp.refl g Rep.bl
  · cases e
theorem s_is {a b : Expr} {ma mb : M} (ha : SndE X W a ma) (hb : SndE X W b mb) : SndE X W (.Compare a [.Is] [b] pos) (m2 pvIs ma mb) := s_cmp (OpR.or op_isBl op_isN) is_op2 ha hb (nomark _)
def pvNot : PV → Option PV
  | .bl b => some (.bl (!b))
  | _ => none
def pvIsNot (p q : PV) : Option PV := (pvIs p q).bind pvNot
theorem isnot_op2 : Op2 X W (fun x y H Q => rNotB x y H Q ∨ (y = .non ∧ Q (.bl (!decide (x = .non))) H)) pvIsNot := fun F ρ σ H x y p q z Q g rp rq e hp => by
  unfold pvIsNot pvIs at e
  split at e
  · cases e
    unfold Rep at rp rq
    exact .inl ⟨_, _, rp, rq, hp F H _ Stp.refl g Rep.bl⟩
  · cases e
    unfold Rep at rp rq
    subst rp rq
    exact .inr ⟨rfl, hp F H _ Stp.refl g Rep.bl⟩
  · rename_i hn
    cases e
    have ne : x ≠ .non := rp.notNon (fun z => hn z)
    unfold Rep at rq
    subst rq
    refine .inr ⟨rfl, ?_⟩
    rw [decide_eq_false ne]
    exact hp F H _ Stp.refl g Rep.bl
  · cases e
theorem s_isnot {a b : Expr} {ma mb : M} (ha : SndE X W a ma) (hb : SndE X W b mb) : SndE X W (.Compare a [.IsNot] [b] pos) (m2 pvIsNot ma mb) := s_cmp (OpR.or op_notBl op_notN) isnot_op2 ha hb (nomark _)
end
end Ev

set_option Elab.async false
set_option linter.all false
set_option maxRecDepth 100000
namespace Ev
open PySem L2
/-! ### data, compared at depth -/
mutual
def pvD : PV → PyData
  | .non => .none
  | .bl b => .bool b
  | .int i => .int i
  | .str x => .str x
  | .tup xs => .tuple (pvDs xs)
  | .lst xs => .list (pvDs xs)
  | .dic _ _ => .none
  | .scr _ => .none
  | .ty _ => .none
def pvDs : List PV → List PyData
  | [] => []
  | x :: xs => pvD x :: pvDs xs
end
def okD : Nat → PV → Bool
  | 0, _ => false
  | n + 1, p => match p with
    | .non => true
    | .bl _ => true
    | .int _ => true
    | .str x => PyData.strOk x
    | .tup xs => xs.all (okD n)
    | .lst xs => xs.all (okD n)
    | _ => false
section
variable {K : PySem.W.Frag} {F : Hp}
theorem okD_dp : ∀ (n : Nat) (p : PV) (v : V), okD n p = true → Rep K F p v → Dp K F v (pvD p) ∧ PyData.canLay0 (pvD p) = true ∧ PyData.depth (pvD p) ≤ n
  | 0, p, v, h, _ => by cases h
  | n + 1, p, v, h, r => by
    have all : ∀ (xs : List PV) (vs : List V), xs.all (okD n) = true → Reps K F xs vs → DpAll K F vs (pvDs xs) ∧ PyData.canLayAll0 (pvDs xs) = true ∧ PyData.depthAll (pvDs xs) ≤ n := by
      intro xs
      induction xs with
      | nil =>
        intro vs _ rr
        rw [rr.inv0]
        exact ⟨.nil, by simp [pvDs, PyData.canLayAll0], by simp [pvDs, PyData.depthAll]⟩
      | cons x xs ih =>
        intro vs hx rr
        obtain ⟨w, ws, rfl, a, b⟩ := rr.inv
        simp only [List.all_cons, Bool.and_eq_true] at hx
        obtain ⟨d1, d2, d3⟩ := okD_dp n x w hx.1 a
        obtain ⟨e1, e2, e3⟩ := ih ws hx.2 b
        refine ⟨.cons d1 e1, ?_, ?_⟩
        · simp [pvDs, PyData.canLayAll0, d2, e2]
        · simp only [pvDs, PyData.depthAll]
          omega
    cases p with
    | non => unfold Rep at r; subst r; exact ⟨.non, rfl, by simp [pvD, PyData.depth]⟩
    | bl b => unfold Rep at r; subst r; exact ⟨.bl b, rfl, by simp [pvD, PyData.depth]⟩
    | int b => unfold Rep at r; subst r; exact ⟨.int b, rfl, by simp [pvD, PyData.depth]⟩
    | str b => unfold Rep at r; subst r; exact ⟨.str b, by simpa [okD, pvD, PyData.canLay0] using h, by simp [pvD, PyData.depth]⟩
    | tup xs =>
      unfold Rep at r
      obtain ⟨a, vs, rfl, h1, h2⟩ := r
      obtain ⟨e1, e2, e3⟩ := all xs vs (by simpa [okD] using h) h2
      exact ⟨.tup (SqT.of h1) e1, by simpa [pvD, PyData.canLay0] using e2, by simp only [pvD, PyData.depth]; omega⟩
    | lst xs =>
      unfold Rep at r
      obtain ⟨a, vs, rfl, h1, h2⟩ := r
      obtain ⟨e1, e2, e3⟩ := all xs vs (by simpa [okD] using h) h2
      exact ⟨.lst (SqL.of h1) e1, by simpa [pvD, PyData.canLay0] using e2, by simp only [pvD, PyData.depth]; omega⟩
    | dic _ _ => simp [okD] at h
    | scr _ => simp [okD] at h
    | ty _ => simp [okD] at h
end
def pvEq (p q : PV) : Option PV := if okD 12 p && okD 12 q then some (.bl (PyData.eqv (pvD p) (pvD q))) else none
def pvNe (p q : PV) : Option PV := if okD 12 p && okD 12 q then some (.bl (!PyData.eqv (pvD p) (pvD q))) else none
section
variable {X : Cx} {W : WX} {pos : Pos}
theorem shaped_of {K : PySem.W.Frag} {F : Hp} {p : PV} {v : V} (h : okD 12 p = true) (r : Rep K F p v) : SeqAt.shaped (pvD p) = true := by
  obtain ⟨_, b, c⟩ := okD_dp 12 p v h r
  unfold SeqAt.shaped
  rw [b]
  simp
  omega
theorem eq_op2 : Op2 X W (rEqD X.K) pvEq := fun F ρ σ H x y p q z Q g rp rq e hp => by
  unfold pvEq at e
  split at e
  · rename_i h
    cases e
    rw [Bool.and_eq_true] at h
    have rp' := Rep.mono g.sub _ _ rp
    have rq' := Rep.mono g.sub _ _ rq
    exact ⟨_, _, (okD_dp 12 p x h.1 rp').1, (okD_dp 12 q y h.2 rq').1, shaped_of h.1 rp, shaped_of h.2 rq, hp F H _ Stp.refl g Rep.bl⟩
  · cases e
theorem ne_op2 : Op2 X W (rNeD X.K) pvNe := fun F ρ σ H x y p q z Q g rp rq e hp => by
  unfold pvNe at e
  split at e
  · rename_i h
    cases e
    rw [Bool.and_eq_true] at h
    have rp' := Rep.mono g.sub _ _ rp
    have rq' := Rep.mono g.sub _ _ rq
    exact ⟨_, _, (okD_dp 12 p x h.1 rp').1, (okD_dp 12 q y h.2 rq').1, shaped_of h.1 rp, shaped_of h.2 rq, hp F H _ Stp.refl g Rep.bl⟩
  · cases e
theorem s_eq {a b : Expr} {ma mb : M} (hu : X.A.units + 64 < cLine) (ha : SndE X W a ma) (hb : SndE X W b mb) : SndE X W (.Compare a [.Eq] [b] pos) (m2 pvEq ma mb) := s_cmp (op_eqD hu) eq_op2 ha hb (nomark _)
theorem s_ne {a b : Expr} {ma mb : M} (hu : X.A.units + 64 < cLine) (ha : SndE X W a ma) (hb : SndE X W b mb) : SndE X W (.Compare a [.NotEq] [b] pos) (m2 pvNe ma mb) := s_cmp (op_neD hu) ne_op2 ha hb (nomark _)
/-! in -/
def flatP : PV → Bool
  | .non => true | .bl _ => true | .int _ => true | .str _ => true | _ => false
def eqP : PV → PV → Bool
  | .non, .non => true
  | .bl a, .bl b => a == b
  | .bl a, .int b => (if a then 1 else 0) == b
  | .int a, .bl b => a == (if b then 1 else 0)
  | .int a, .int b => a == b
  | .str a, .str b => a == b
  | _, _ => false
theorem flat_of {K : PySem.W.Frag} {F : Hp} {p : PV} {v : V} (r : Rep K F p v) (h : flatP p = true) : flatV v = true := by
  cases p <;> first | (unfold Rep at r; subst r; rfl) | (simp [flatP] at h)
theorem eqP_of {K : PySem.W.Frag} {F : Hp} {p q : PV} {v w : V} (r : Rep K F p v) (r' : Rep K F q w) (h : flatP p = true) (h' : flatP q = true) : eqV v w = eqP p q := by
  cases p <;> first | (simp [flatP] at h; done) | skip
  all_goals (cases q <;> first | (simp [flatP] at h'; done) | skip)
  all_goals (unfold Rep at r r'; subst r r'; rfl)
theorem flats_of {K : PySem.W.Frag} {F : Hp} : ∀ {ps : List PV} {vs : List V}, Reps K F ps vs → ps.all flatP = true → vs.all flatV = true
  | [], vs, r, _ => by rw [r.inv0]; rfl
  | p :: ps, vs, r, h => by
    obtain ⟨v, ws, rfl, a, b⟩ := r.inv
    simp only [List.all_cons, Bool.and_eq_true] at h ⊢
    exact ⟨flat_of a h.1, flats_of b h.2⟩
theorem inP_of {K : PySem.W.Frag} {F : Hp} {q : PV} {w : V} (r' : Rep K F q w) (h' : flatP q = true) : ∀ {ps : List PV} {vs : List V}, Reps K F ps vs → ps.all flatP = true → inV w vs = ps.any fun y => eqP y q
  | [], vs, r, _ => by rw [r.inv0]; rfl
  | p :: ps, vs, r, h => by
    obtain ⟨v, ws, rfl, a, b⟩ := r.inv
    simp only [List.all_cons, Bool.and_eq_true] at h
    have ih := inP_of r' h' b h.2
    unfold inV at ih ⊢
    simp only [List.any_cons]
    rw [ih, eqP_of a r' h.1 h']
def pvItems : PV → Option (List PV)
  | .lst xs => some xs
  | .tup xs => some xs
  | _ => none
def pvIn (p q : PV) : Option PV := (pvItems q).bind fun xs => if flatP p && xs.all flatP then some (.bl (xs.any fun y => eqP y p)) else none
theorem items_sq {K : PySem.W.Frag} {F : Hp} {p : PV} {v : V} {xs : List PV} (r : Rep K F p v) (h : pvItems p = some xs) : ∃ a vs, v = .ref a ∧ ((p = .lst xs ∧ F a = some (.lst vs)) ∨ (p = .tup xs ∧ F a = some (.tup vs))) ∧ Reps K F xs vs := by
  cases p <;> simp [pvItems] at h
  · subst h; unfold Rep at r; obtain ⟨a, vs, rfl, h1, h2⟩ := r; exact ⟨a, vs, rfl, .inr ⟨rfl, h1⟩, h2⟩
  · subst h; unfold Rep at r; obtain ⟨a, vs, rfl, h1, h2⟩ := r; exact ⟨a, vs, rfl, .inl ⟨rfl, h1⟩, h2⟩
theorem sq_or {K : PySem.W.Frag} {F H : Hp} {p : PV} {a : Addr} {xs : List PV} {vs : List V} (s : Same F H) (h : (p = .lst xs ∧ F a = some (.lst vs)) ∨ (p = .tup xs ∧ F a = some (.tup vs))) : SqL K H a vs ∨ SqT K H a vs :=
  h.elim (fun z => .inl (SqL.of (s _ _ z.2))) fun z => .inr (SqT.of (s _ _ z.2))
theorem in_op2 : Op2 X W (rIn X.K false) pvIn := fun F ρ σ H x y p q z Q g rp rq e hp => by
  unfold pvIn at e
  cases hi : pvItems q with
  | none => rw [hi] at e; cases e
  | some xs =>
    rw [hi] at e
    simp only [Option.bind_some] at e
    split at e
    · rename_i h
      cases e
      rw [Bool.and_eq_true] at h
      obtain ⟨a, vs, rfl, h1, h2⟩ := items_sq rq hi
      refine ⟨a, vs, rfl, sq_or g.sub h1, flat_of rp h.1, flats_of h2 h.2, ?_⟩
      rw [if_neg (by decide), inP_of rp h.1 h2 h.2]
      exact hp F H _ Stp.refl g Rep.bl
    · cases e
def pvNotIn (p q : PV) : Option PV := (pvIn p q).bind pvNot
theorem notin_op2 : Op2 X W (rIn X.K true) pvNotIn := fun F ρ σ H x y p q z Q g rp rq e hp => by
  unfold pvNotIn pvIn at e
  cases hi : pvItems q with
  | none => rw [hi] at e; cases e
  | some xs =>
    rw [hi] at e
    simp only [Option.bind_some] at e
    split at e
    · rename_i h
      cases e
      rw [Bool.and_eq_true] at h
      obtain ⟨a, vs, rfl, h1, h2⟩ := items_sq rq hi
      refine ⟨a, vs, rfl, sq_or g.sub h1, flat_of rp h.1, flats_of h2 h.2, ?_⟩
      rw [if_pos rfl, inP_of rp h.1 h2 h.2]
      exact hp F H _ Stp.refl g Rep.bl
    · cases e
theorem s_in {a b : Expr} {ma mb : M} (ha : SndE X W a ma) (hb : SndE X W b mb) (hm : behindInMarks .In b = false := by with_unfolding_all rfl) : SndE X W (.Compare a [.In] [b] pos) (m2 pvIn ma mb) := s_cmp op_in_seq in_op2 ha hb hm
theorem s_notin {a b : Expr} {ma mb : M} (ha : SndE X W a ma) (hb : SndE X W b mb) (hm : behindInMarks .NotIn b = false := by with_unfolding_all rfl) : SndE X W (.Compare a [.NotIn] [b] pos) (m2 pvNotIn ma mb) := s_cmp op_notIn_seq notin_op2 ha hb hm
/-! a op b op c -/
def mChain (op op' : PV → PV → Option PV) (a b c : M) : M := fun ρ => (a ρ).bnd fun p ρ1 => (b ρ1).bnd fun q ρ2 => match op p q with
  | some (.bl true) => (c ρ2).bnd fun r ρ3 => Res.of (op' q r) ρ3
  | some (.bl false) => .ok (.bl false, ρ2)
  | _ => .bad
theorem s_chainE {a b c e : Expr} {ma mb mc : M} {op op' : PV → PV → Option PV} {r r' : R2} (hpe : PE X e (tChain r r' (WE X a) (WE X b) (WE X c))) (h2 : Op2 X W r op) (h2' : Op2 X W r' op') (ha : SndE X W a ma) (hb : SndE X W b mb) (hc : SndE X W c mc) : SndE X W e (mChain op op' ma mb mc) := fun F ρ σ H Q g hp => by
  refine we_of hpe ?_
  refine ha.then g hp fun F1 ρ1 H1 p x _ g1 rp hp1 => ?_
  refine hb.then g1 hp1 fun F2 ρ2 H2 q y st2 g2 rq hp2 => ?_
  split at hp2
  · rename_i ez
    refine h2 F2 ρ2 σ H2 x y p q _ _ g2 (Rep.mono st2.ff _ _ rp) rq ez ?_
    intro F3 H3 v st3 g3 rv
    replace rv : Rep X.K F3 (.bl true) v := rv
    unfold Rep at rv
    subst rv
    refine ⟨true, rfl, ?_⟩
    rw [if_pos rfl]
    refine hc.then g3 (Post.next st3 hp2) fun F4 ρ4 H4 z w st4 g4 rz hp4 => ?_
    obtain ⟨t, et⟩ := hp4.some
    refine h2' F4 ρ4 σ H4 y w q z t Q g4 (Rep.mono st4.ff _ _ (Rep.mono st3.ff _ _ rq)) rz et ?_
    rw [et] at hp4
    exact hp4
  · rename_i ez
    refine h2 F2 ρ2 σ H2 x y p q _ _ g2 (Rep.mono st2.ff _ _ rp) rq ez ?_
    intro F3 H3 v st3 g3 rv
    replace rv : Rep X.K F3 (.bl false) v := rv
    unfold Rep at rv
    subst rv
    refine ⟨false, rfl, ?_⟩
    rw [if_neg (by decide)]
    exact hp2 F3 H3 _ st3 g3 Rep.bl
  · exact hp2.elim
theorem s_chain {a b c : Expr} {ma mb mc : M} {o o' : CmpOp} {op op' : PV → PV → Option PV} {r r' : R2} (ho : OpR X (compareOp o) r) (ho' : OpR X (compareOp o') r') (h2 : Op2 X W r op) (h2' : Op2 X W r' op')
    (ha : SndE X W a ma) (hb : SndE X W b mb) (hc : SndE X W c mc) (hm : lastMarks [o, o'] [b, c] = false := by with_unfolding_all rfl) : SndE X W (.Compare a [o, o'] [b, c] pos) (mChain op op' ma mb mc) :=
  s_chainE (pe_chain ho ho' pe_we pe_we pe_we hm) h2 h2' ha hb hc

/-! ### argument lists, displays -/
def mArgs : List M → MA
  | [] => fun ρ => .ok ([], ρ)
  | m :: ms => fun ρ => (m ρ).bnd fun p ρ1 => (mArgs ms ρ1).bnd fun ps ρ2 => .ok (p :: ps, ρ2)
theorem sa_nil : SndA X W [] (mArgs []) := fun F ρ σ H Q g hp => wa_of pa_nil (show Q [] H from hp F H [] Stp.refl g Reps.nil)
theorem sa_cons {e : Expr} {es : List Expr} {m : M} {ms : List M} (ha : SndE X W e m) (hr : SndA X W es (mArgs ms)) (hs : starEach (e :: es) X.env = (false, eval e X.env) :: starEach es X.env := by rfl) : SndA X W (e :: es) (mArgs (m :: ms)) := fun F ρ σ H Q g hp => by
  refine wa_of (pa_cons pe_we pa_wa hs) ?_
  unfold mArgs at hp
  refine ha.then g hp fun F1 ρ1 H1 p x _ g1 rp hp1 => ?_
  refine hr.then g1 hp1 fun F2 ρ2 H2 ps xs st2 g2 rps hp2 => ?_
  exact hp2 F2 H2 _ Stp.refl g2 (Reps.cons (Rep.mono st2.ff _ _ rp) rps)
theorem mArgs_len : ∀ {ms : List M} {ρ ρ' : Rho} {ps : List PV}, mArgs ms ρ = .ok (ps, ρ') → ps.length = ms.length
  | [], ρ, ρ', ps, h => by unfold mArgs at h; cases h; rfl
  | m :: ms, ρ, ρ', ps, h => by
    unfold mArgs at h
    cases h1 : m ρ with
    | bad => rw [h1] at h; cases h
    | exc x r => rw [h1] at h; cases h
    | ok z =>
      obtain ⟨p, ρ1⟩ := z
      rw [h1] at h
      simp only [Res.bnd_ok] at h
      cases h2 : mArgs ms ρ1 with
      | bad => rw [h2] at h; cases h
      | exc x r => rw [h2] at h; cases h
      | ok z =>
        obtain ⟨qs, ρ2⟩ := z
        rw [h2] at h
        simp only [Res.bnd_ok] at h
        cases h
        simp [mArgs_len h2]
theorem SndA.thenL {es : List Expr} {ms : List M} {F : Hp} {ρ : Rho} {σ : St} {H : Hp} {α' β' : Type} {rep' : RepT α' β'} [RepM rep'] {Q' : β' → Hp → Prop} {f : List PV → Rho → Res (α' × Rho)} {R : List V → Hp → Prop} (ha : SndA X W es (mArgs ms)) (g : Good X.K F ρ σ H) (hp : Post rep' X W F ρ σ H ((mArgs ms ρ).bnd f) Q')
    (k : ∀ F1 ρ1 H1 p v, Stp σ F ρ H F1 ρ1 H1 → Good X.K F1 ρ1 σ H1 → Reps X.K F1 p v → p.length = ms.length → Post rep' X W F1 ρ1 σ H1 (f p ρ1) Q' → R v H1) : WA X es σ H R := by
  refine ha F ρ σ H R g ?_
  match hm : mArgs ms ρ, hp with
  | .ok (p, ρ1), hp => exact fun F1 H1 v st g rp => k F1 ρ1 H1 p v st g rp (mArgs_len hm) (Post.next st hp)
  | .exc x ρ', h => exact h
theorem small_le {n : Nat} (h : n ≤ 1000) : n ≤ sizeLine := Nat.le_of_lt (small1000 h)
def mTup (ms : List M) : M := fun ρ => (mArgs ms ρ).bnd fun ps ρ1 => .ok (.tup ps, ρ1)
theorem s_tup {es : List Expr} {ms : List M} {x1} (ha : SndA X W es (mArgs ms)) (hl : ms.length ≤ 1000 := by decide) : SndE X W (.Tuple es x1 pos) (mTup ms) := fun F ρ σ H Q g hp => by
  refine we_of (pe_tup pa_wa) ?_
  refine ha.thenL g hp fun F1 ρ1 H1 ps vs _ g1 rp len hp1 => ?_
  exact ⟨small_le (by rw [← rp.length, len]; exact hl), Post.newT g1 hp1 rp⟩
/-- a new list of one's own at p -/
theorem Post.newF {F H : Hp} {ρ : Rho} {σ : St} {xs : List PV} {vs : List V} {Q : VK} (g : Good X.K F ρ σ H) (hp : Post (repF X.K σ) X W F ρ σ H (.ok (xs, ρ)) Q) (r : Reps X.K F xs vs) : ∀ p, H p = none → Q (.ref p) (upd H p (.lst vs)) := fun p n => by
  refine hp F _ _ (Stp.lay n) (g.lay n) ⟨p, vs, rfl, n, g.fnone n, fun i ys e z => ?_, upd_same, r⟩
  obtain ⟨a, ws, e1, e2, e3, e4⟩ := g.own i ys e
  rw [e1] at z
  cases z
  rw [n] at e3
  cases e3
theorem f_lst {es : List Expr} {ms : List M} (ha : SndA X W es (mArgs ms)) (hl : ms.length ≤ 1000 := by decide) : SndF X W (.List es pos) (mArgs ms) := fun F ρ σ H Q g hp => by
  refine we_of (pe_lst pa_wa) ?_
  have hp' : Post (repF X.K σ) X W F ρ σ H ((mArgs ms ρ).bnd fun ps ρ1 => .ok (ps, ρ1)) Q := by
    cases h : mArgs ms ρ with
    | ok z => obtain ⟨p, ρ1⟩ := z; rw [h] at hp; exact hp
    | exc x r => rw [h] at hp; exact hp
    | bad => rw [h] at hp; exact hp
  refine ha.thenL g hp' fun F1 ρ1 H1 ps vs _ g1 rp len hp1 => ?_
  exact ⟨small_le (by rw [← rp.length, len]; exact hl), Post.newF g1 hp1 rp⟩
theorem s_lst {es : List Expr} {ms : List M} (ha : SndA X W es (mArgs ms)) (hl : ms.length ≤ 1000 := by decide) : SndE X W (.List es pos) (mFrz (mArgs ms)) := (f_lst ha hl).snd

/-! ### items -/
def pvIx : PV → PV → Option PV
  | .lst xs, .int i => atI xs i
  | .tup xs, .int i => atI xs i
  | .scr ns, .int i => (atI ns i).map .int
  | .str z, .int i => if z.length ≤ sizeLine then (atI z.cps.toList i).map (fun c => .str ⟨#[c]⟩) else none
  | _, _ => none
theorem atI_reps {K : PySem.W.Frag} {F : Hp} {ps : List PV} {vs : List V} {i : Int} {p : PV} (r : Reps K F ps vs) (h : atI ps i = some p) : ∃ v, atI vs i = some v ∧ Rep K F p v := by
  unfold atI at h ⊢
  rw [← r.length]
  cases e : ixN ps.length i with
  | none => rw [e] at h; cases h
  | some j =>
    rw [e] at h
    exact r.get h
theorem ix_op2 : Op2 X W (rIx X.K) pvIx := fun F ρ σ H x y p q z Q g rp rq e hp => by
  unfold pvIx at e
  split at e
  · unfold Rep at rp rq
    obtain ⟨a, vs, rfl, h1, h2⟩ := rp
    obtain ⟨v, h3, h4⟩ := atI_reps h2 e
    exact .inl ⟨a, vs, _, v, rfl, rq, SqL.of (g.sub _ _ h1), h3, hp F H _ Stp.refl g h4⟩
  · unfold Rep at rp rq
    obtain ⟨a, vs, rfl, h1, h2⟩ := rp
    obtain ⟨v, h3, h4⟩ := atI_reps h2 e
    exact .inr (.inl ⟨a, vs, _, v, rfl, rq, SqT.of (g.sub _ _ h1), h3, hp F H _ Stp.refl g h4⟩)
  · rename_i ns i
    unfold Rep at rp rq
    obtain ⟨a, rfl, h1⟩ := rp
    cases ea : atI ns i with
    | none => rw [ea] at e; cases e
    | some n =>
      rw [ea] at e
      cases e
      refine .inl ⟨a, _, _, .int n, rfl, rq, g.sub.seq h1, ?_, hp F H _ Stp.refl g Rep.int⟩
      unfold atI at ea ⊢
      rw [List.length_map]
      cases e2 : ixN ns.length i with
      | none => rw [e2] at ea; cases ea
      | some j =>
        rw [e2] at ea
        simp only [Option.bind_some] at ea ⊢
        rw [List.getElem?_map, ea]
        rfl
  · rename_i s i
    split at e
    · rename_i hl
      unfold Rep at rp rq
      cases ea : atI s.cps.toList i with
      | none => rw [ea] at e; cases e
      | some c =>
        rw [ea] at e
        cases e
        exact .inr (.inr ⟨s, i, c, rp, rq, hl, ea, hp F H _ Stp.refl g Rep.str⟩)
    · cases e
  · cases e
theorem s_ix {a b : Expr} {ma mb : M} (ha : SndE X W a ma) (hb : SndE X W b mb) (hs : PlainIx b := by exact fun _ _ => rfl) : SndE X W (.Subscript a b pos) (m2 pvIx ma mb) := s_two (pe_ix ix_seq pe_we pe_we hs) ix_op2 ha hb
/-- what a slot holds, read without taking it -/
def slotV (ρ : Rho) (i : Nat) : Option PV := match ρ[i]? with
  | some (.val p) => some p
  | some (.own xs) => some (.lst xs)
  | _ => none
theorem Good.slot {K : PySem.W.Frag} {F H : Hp} {ρ : Rho} {σ : St} {i : Nat} {p : PV} (g : Good K F ρ σ H) (h : slotV ρ i = some p) : ∃ v, σ[i]? = some (some v) ∧ Rep K H p v := by
  unfold slotV at h
  split at h
  · rename_i q e
    cases h
    obtain ⟨v, e1, e2⟩ := g.val i _ e
    exact ⟨v, e1, Rep.mono g.sub _ _ e2⟩
  · rename_i xs e
    cases h
    obtain ⟨a, vs, e1, e2, e3, e4⟩ := g.own i _ e
    refine ⟨.ref a, e1, ?_⟩
    unfold Rep
    exact ⟨a, vs, rfl, e3, Reps.mono g.sub _ _ e4⟩
  · cases h
/-- what the items of an own list, or a value, are known as -/
theorem Good.slotItem {K : PySem.W.Frag} {F H : Hp} {ρ : Rho} {σ : St} {i : Nat} {p : PV} (g : Good K F ρ σ H) (h : slotV ρ i = some p) : ∃ v, σ[i]? = some (some v) ∧ (Rep K F p v ∨ ∃ a vs xs, v = .ref a ∧ p = .lst xs ∧ H a = some (.lst vs) ∧ Reps K F xs vs) := by
  unfold slotV at h
  split at h
  · rename_i q e
    cases h
    obtain ⟨v, e1, e2⟩ := g.val i _ e
    exact ⟨v, e1, .inl e2⟩
  · rename_i xs e
    cases h
    obtain ⟨a, vs, e1, e2, e3, e4⟩ := g.own i _ e
    exact ⟨.ref a, e1, .inr ⟨a, vs, xs, rfl, rfl, e3, e4⟩⟩
  · cases h
/-- name[e], the name's list not taken -/
def mIxN (i : Nat) (mb : M) : M := fun ρ => match slotV ρ i with
  | none => .bad
  | some _ => (mb ρ).bnd fun q ρ1 => Res.of ((slotV ρ1 i).bind fun p => pvIx p q) ρ1
theorem s_ixN {x : Str} {p0 : Pos} {b : Expr} {mb : M} (i : Nat) (h : PE X (.Name x p0) (tVar i)) (hb : SndE X W b mb) (hs : PlainIx b := by exact fun _ _ => rfl) : SndE X W (.Subscript (.Name x p0) b pos) (mIxN i mb) := fun F ρ σ H Q g hp => by
  refine we_of (pe_ix ix_seq h pe_we hs) ?_
  unfold mIxN at hp
  cases e0 : slotV ρ i with
  | none => rw [e0] at hp; exact hp.elim
  | some p0 =>
    rw [e0] at hp
    obtain ⟨v, ev, _⟩ := g.slot e0
    refine ⟨v, ev, hb.then g hp fun F1 ρ1 H1 q y st1 g1 rq hp1 => ?_⟩
    obtain ⟨z, ez⟩ := hp1.some
    cases e1 : slotV ρ1 i with
    | none => rw [e1] at ez; cases ez
    | some p =>
      rw [e1] at ez hp1
      simp only [Option.bind_some] at ez hp1
      rw [ez] at hp1
      obtain ⟨w, ew, hw⟩ := g1.slotItem e1
      rw [ev] at ew
      cases ew
      rcases hw with hw | ⟨a, vs, xs, rfl, rfl, h1, h2⟩
      · exact ix_op2 F1 ρ1 σ H1 v y p q z Q g1 hw rq ez hp1
      · unfold pvIx at ez
        split at ez
        · rename_i ys k eq1
          cases eq1
          obtain ⟨u, h3, h4⟩ := atI_reps h2 ez
          unfold Rep at rq
          exact .inl ⟨a, vs, _, u, rfl, rq, SqL.of h1, h3, hp1 F1 H1 _ Stp.refl g1 h4⟩
        · rename_i eq1; cases eq1
        · rename_i eq1; cases eq1
        · rename_i eq1; cases eq1
        · cases ez
end
end Ev

set_option Elab.async false
set_option linter.all false
set_option maxRecDepth 100000
namespace Ev
open PySem L2
/-! ### truth, tests -/
def pvTruth : PV → Option Bool
  | .non => some false
  | .bl b => some b
  | .int i => some (i != 0)
  | .str x => if x.length ≤ sizeLine then some ((x.length : Int) != 0) else none
  | .lst xs => some (!xs.isEmpty)
  | .tup xs => some (!xs.isEmpty)
  | .scr ns => some (!ns.isEmpty)
  | _ => none
section
variable {X : Cx} {W : WX} {pos : Pos}
theorem Reps.emp {K : PySem.W.Frag} {F : Hp} {xs : List PV} {vs : List V} (r : Reps K F xs vs) : xs.isEmpty = vs.isEmpty := by
  cases xs with
  | nil => rw [r.inv0]; rfl
  | cons x xs => obtain ⟨_, _, rfl, _⟩ := r.inv; rfl
theorem tru_of {K : PySem.W.Frag} {F : Hp} {p : PV} {v : V} {k : Bool} (r : Rep K F p v) (h : pvTruth p = some k) : TruV K v F k := by
  cases p with
  | non => unfold Rep at r; subst r; cases h; rfl
  | bl b => unfold Rep at r; subst r; cases h; rfl
  | int i => unfold Rep at r; subst r; cases h; rfl
  | str x =>
    unfold Rep at r; subst r
    simp only [pvTruth] at h
    split at h
    · rename_i hl; cases h; exact ⟨hl, rfl⟩
    · cases h
  | lst xs => unfold Rep at r; obtain ⟨a, vs, rfl, h1, h2⟩ := r; cases h; exact .inl ⟨vs, SqL.of h1, by rw [h2.emp]⟩
  | tup xs => unfold Rep at r; obtain ⟨a, vs, rfl, h1, h2⟩ := r; cases h; exact .inr (.inl ⟨vs, SqT.of h1, by rw [h2.emp]⟩)
  | scr ns => unfold Rep at r; obtain ⟨a, rfl, h1⟩ := r; cases h; exact .inl ⟨_, h1, by cases ns <;> rfl⟩
  | dic _ _ => cases h
  | ty _ => cases h
theorem TruV.mono {K : PySem.W.Frag} {F H : Hp} {p : PV} {v : V} {k : Bool} (s : Same F H) (r : Rep K F p v) (h : pvTruth p = some k) : TruV K v H k := tru_of (Rep.mono s _ _ r) h
def mTest (m : M) : MT := fun ρ => (m ρ).bnd fun p ρ1 => Res.of (pvTruth p) ρ1
theorem t_truth {e : Expr} {m : M} (h : SndE X W e m) (he : ∀ whole, isTrue e X.env whole = (do let v ← whole; standAt e.pos; holding [v] (truthy v)) := by intro _; rfl) : SndT X W e (mTest m) := fun F ρ σ H Q g hp => by
  refine wt_of (pt_truth pe_we he) ?_
  refine h.then g hp fun F1 ρ1 H1 p v st g1 rp hp1 => ?_
  obtain ⟨k, ek⟩ := hp1.some
  exact ⟨k, TruV.mono g1.sub rp ek, hp1.here ek g1 rfl⟩
def mTruthN (i : Nat) : MT := fun ρ => Res.of ((slotV ρ i).bind pvTruth) ρ
theorem t_name {x : Str} {p0 : Pos} (i : Nat) (h : PE X (.Name x p0) (tVar i)) (he : ∀ whole, isTrue (.Name x p0) X.env whole = (do let v ← whole; standAt (Expr.Name x p0).pos; holding [v] (truthy v)) := by intro _; rfl) : SndT X W (.Name x p0) (mTruthN i) := fun F ρ σ H Q g hp => by
  refine wt_of (pt_truth h he) ?_
  unfold mTruthN at hp
  obtain ⟨k, ek⟩ := hp.some
  cases e : slotV ρ i with
  | none => rw [e] at ek; cases ek
  | some p =>
    rw [e] at ek
    obtain ⟨v, ev, rv⟩ := g.slot e
    rw [e] at hp
    exact ⟨v, ev, k, tru_of rv ek, hp.here ek g rfl⟩
/-- a comparison as a test -/
theorem t_two {a b e : Expr} {ma mb : M} {op : PV → PV → Option PV} {r : R2} (hpt : PT X e (tTest (tOp r (WE X a) (WE X b)))) (h2 : Op2 X W r op) (hB : ∀ p q z, op p q = some z → ∃ k, z = .bl k) (ha : SndE X W a ma) (hb : SndE X W b mb) : SndT X W e (mTest (m2 op ma mb)) := fun F ρ σ H Q g hp => by
  refine wt_of hpt ?_
  have hp' : Post repT X W F ρ σ H ((ma ρ).bnd fun p ρ1 => (mb ρ1).bnd fun q ρ2 => (Res.of (op p q) ρ2).bnd fun z ρ3 => Res.of (pvTruth z) ρ3) Q := by
    unfold mTest m2 at hp
    cases h1 : ma ρ with
    | bad => rw [h1] at hp; exact hp
    | exc x r => rw [h1] at hp; exact hp
    | ok z =>
      obtain ⟨p, ρ1⟩ := z
      rw [h1] at hp
      simp only [Res.bnd_ok] at hp ⊢
      cases h3 : mb ρ1 with
      | bad => rw [h3] at hp; exact hp
      | exc x r => rw [h3] at hp; exact hp
      | ok z => obtain ⟨q, ρ2⟩ := z; rw [h3] at hp; exact hp
  refine ha.then g hp' fun F1 ρ1 H1 p x _ g1 rp hp1 => ?_
  refine hb.then g1 hp1 fun F2 ρ2 H2 q y st2 g2 rq hp2 => ?_
  cases ez : op p q with
  | none => rw [ez] at hp2; exact hp2.elim
  | some z =>
    rw [ez] at hp2
    obtain ⟨k, rfl⟩ := hB p q z ez
    refine h2 F2 ρ2 σ H2 x y p q _ _ g2 (Rep.mono st2.ff _ _ rp) rq ez ?_
    intro F3 H3 v st3 g3 rv
    replace rv : Rep X.K F3 (.bl k) v := rv
    unfold Rep at rv
    subst rv
    exact ⟨k, rfl, hp2 F3 H3 k st3 g3 rfl⟩
theorem t_cmp {a b : Expr} {ma mb : M} {o : CmpOp} {op : PV → PV → Option PV} {r : R2} (ho : OpR X (compareOp o) r) (h2 : Op2 X W r op) (hB : ∀ p q z, op p q = some z → ∃ k, z = .bl k) (ha : SndE X W a ma) (hb : SndE X W b mb) (hm : behindInMarks o b = false) : SndT X W (.Compare a [o] [b] pos) (mTest (m2 op ma mb)) :=
  t_two (pt_cmpR ho pe_we pe_we hm) h2 hB ha hb
theorem bl_eq (p q z : PV) (h : pvEq p q = some z) : ∃ k, z = .bl k := by unfold pvEq at h; split at h <;> cases h; exact ⟨_, rfl⟩
theorem bl_ne (p q z : PV) (h : pvNe p q = some z) : ∃ k, z = .bl k := by unfold pvNe at h; split at h <;> cases h; exact ⟨_, rfl⟩
theorem bl_lt (p q z : PV) (h : pvLt p q = some z) : ∃ k, z = .bl k := by unfold pvLt at h; split at h <;> cases h; exact ⟨_, rfl⟩
theorem bl_le (p q z : PV) (h : pvLe p q = some z) : ∃ k, z = .bl k := by unfold pvLe at h; split at h <;> cases h; exact ⟨_, rfl⟩
theorem bl_gt (p q z : PV) (h : pvGt p q = some z) : ∃ k, z = .bl k := by unfold pvGt at h; split at h <;> cases h; exact ⟨_, rfl⟩
theorem bl_ge (p q z : PV) (h : pvGe p q = some z) : ∃ k, z = .bl k := by unfold pvGe at h; split at h <;> cases h; exact ⟨_, rfl⟩
theorem bl_is (p q z : PV) (h : pvIs p q = some z) : ∃ k, z = .bl k := by unfold pvIs at h; split at h <;> cases h <;> exact ⟨_, rfl⟩
theorem bl_not {o : Option PV} {z : PV} (h : o.bind pvNot = some z) : ∃ k, z = .bl k := by
  cases o with
  | none => cases h
  | some y => unfold pvNot at h; simp only [Option.bind_some] at h; split at h <;> cases h; exact ⟨_, rfl⟩
theorem bl_isnot (p q z : PV) (h : pvIsNot p q = some z) : ∃ k, z = .bl k := bl_not h
theorem bl_in (p q z : PV) (h : pvIn p q = some z) : ∃ k, z = .bl k := by
  unfold pvIn at h
  cases e : pvItems q with
  | none => rw [e] at h; cases h
  | some xs => rw [e] at h; simp only [Option.bind_some] at h; split at h <;> cases h; exact ⟨_, rfl⟩
theorem bl_notin (p q z : PV) (h : pvNotIn p q = some z) : ∃ k, z = .bl k := bl_not h
section
variable {a b : Expr} {ma mb : M} (ha : SndE X W a ma) (hb : SndE X W b mb)
include ha hb
theorem t_eq (hu : X.A.units + 64 < cLine) : SndT X W (.Compare a [.Eq] [b] pos) (mTest (m2 pvEq ma mb)) := t_cmp (op_eqD hu) eq_op2 bl_eq ha hb (nomark _)
theorem t_ne (hu : X.A.units + 64 < cLine) : SndT X W (.Compare a [.NotEq] [b] pos) (mTest (m2 pvNe ma mb)) := t_cmp (op_neD hu) ne_op2 bl_ne ha hb (nomark _)
theorem t_lt : SndT X W (.Compare a [.Lt] [b] pos) (mTest (m2 pvLt ma mb)) := t_cmp op_lt lt_op2 bl_lt ha hb (nomark _)
theorem t_le : SndT X W (.Compare a [.LtE] [b] pos) (mTest (m2 pvLe ma mb)) := t_cmp op_le le_op2 bl_le ha hb (nomark _)
theorem t_gt : SndT X W (.Compare a [.Gt] [b] pos) (mTest (m2 pvGt ma mb)) := t_cmp op_gt gt_op2 bl_gt ha hb (nomark _)
theorem t_ge : SndT X W (.Compare a [.GtE] [b] pos) (mTest (m2 pvGe ma mb)) := t_cmp op_ge ge_op2 bl_ge ha hb (nomark _)
theorem t_is : SndT X W (.Compare a [.Is] [b] pos) (mTest (m2 pvIs ma mb)) := t_cmp (OpR.or op_isBl op_isN) is_op2 bl_is ha hb (nomark _)
theorem t_isnot : SndT X W (.Compare a [.IsNot] [b] pos) (mTest (m2 pvIsNot ma mb)) := t_cmp (OpR.or op_notBl op_notN) isnot_op2 bl_isnot ha hb (nomark _)
theorem t_in (hm : behindInMarks .In b = false := by with_unfolding_all rfl) : SndT X W (.Compare a [.In] [b] pos) (mTest (m2 pvIn ma mb)) := t_cmp op_in_seq in_op2 bl_in ha hb hm
theorem t_notin (hm : behindInMarks .NotIn b = false := by with_unfolding_all rfl) : SndT X W (.Compare a [.NotIn] [b] pos) (mTest (m2 pvNotIn ma mb)) := t_cmp op_notIn_seq notin_op2 bl_notin ha hb hm
end
/-- a chain as a test -/
theorem t_chain {a b c : Expr} {ma mb mc : M} {o o' : CmpOp} {op op' : PV → PV → Option PV} {r r' : R2} (ho : OpR X (compareOp o) r) (ho' : OpR X (compareOp o') r') (h2 : Op2 X W r op) (h2' : Op2 X W r' op') (hB' : ∀ p q z, op' p q = some z → ∃ k, z = .bl k)
    (ha : SndE X W a ma) (hb : SndE X W b mb) (hc : SndE X W c mc) (hm : lastMarks [o, o'] [b, c] = false := by with_unfolding_all rfl) : SndT X W (.Compare a [o, o'] [b, c] pos) (mTest (mChain op op' ma mb mc)) := fun F ρ σ H Q g hp => by
  refine wt_of (pt_chain ho ho' pe_we pe_we pe_we hm) ?_
  show tChain r r' (WE X a) (WE X b) (WE X c) σ H fun x H' => ∃ k, x = .bl k ∧ Q k H'
  have hp' : Post repT X W F ρ σ H ((ma ρ).bnd fun p ρ1 => (mb ρ1).bnd fun q ρ2 => (match op p q with
      | some (.bl true) => (mc ρ2).bnd fun r ρ3 => Res.of (op' q r) ρ3
      | some (.bl false) => .ok (.bl false, ρ2)
      | _ => .bad : Res (PV × Rho)).bnd fun z ρ3 => Res.of (pvTruth z) ρ3) Q := by
    unfold mTest mChain at hp
    cases h1 : ma ρ with
    | bad => rw [h1] at hp; exact hp
    | exc x r => rw [h1] at hp; exact hp
    | ok z =>
      obtain ⟨p, ρ1⟩ := z
      rw [h1] at hp
      simp only [Res.bnd_ok] at hp ⊢
      cases h3 : mb ρ1 with
      | bad => rw [h3] at hp; exact hp
      | exc x r => rw [h3] at hp; exact hp
      | ok z => obtain ⟨q, ρ2⟩ := z; rw [h3] at hp; exact hp
  refine ha.then g hp' fun F1 ρ1 H1 p x _ g1 rp hp1 => ?_
  refine hb.then g1 hp1 fun F2 ρ2 H2 q y st2 g2 rq hp2 => ?_
  split at hp2
  · rename_i ez
    refine h2 F2 ρ2 σ H2 x y p q _ _ g2 (Rep.mono st2.ff _ _ rp) rq ez ?_
    intro F3 H3 v st3 g3 rv
    replace rv : Rep X.K F3 (.bl true) v := rv
    unfold Rep at rv
    subst rv
    refine ⟨true, rfl, ?_⟩
    rw [if_pos rfl]
    have hq : Post repT X W F2 ρ2 σ H2 ((mc ρ2).bnd fun r ρ3 => (Res.of (op' q r) ρ3).bnd fun z ρ4 => Res.of (pvTruth z) ρ4) Q := by
      cases h3 : mc ρ2 with
      | bad => rw [h3] at hp2; exact hp2
      | exc x r => rw [h3] at hp2; exact hp2
      | ok z => obtain ⟨t, ρ3⟩ := z; rw [h3] at hp2; exact hp2
    refine hc.then g3 (Post.next st3 hq) fun F4 ρ4 H4 z w st4 g4 rz hp4 => ?_
    cases et : op' q z with
    | none => rw [et] at hp4; exact hp4.elim
    | some t =>
      rw [et] at hp4
      obtain ⟨k, rfl⟩ := hB' q z t et
      refine h2' F4 ρ4 σ H4 y w q z _ _ g4 (Rep.mono st4.ff _ _ (Rep.mono st3.ff _ _ rq)) rz et ?_
      intro F5 H5 v st5 g5 rv
      replace rv : Rep X.K F5 (.bl k) v := rv
      unfold Rep at rv
      subst rv
      exact ⟨k, rfl, hp4 F5 H5 k st5 g5 rfl⟩
  · rename_i ez
    refine h2 F2 ρ2 σ H2 x y p q _ _ g2 (Rep.mono st2.ff _ _ rp) rq ez ?_
    intro F3 H3 v st3 g3 rv
    replace rv : Rep X.K F3 (.bl false) v := rv
    unfold Rep at rv
    subst rv
    refine ⟨false, rfl, ?_⟩
    rw [if_neg (by decide)]
    exact ⟨false, rfl, hp2 F3 H3 false st3 g3 rfl⟩
  · exact hp2.elim
/-! and, or, not -/
@[irreducible] def WW (X : Cx) (e : Expr) : TT := fun σ H Q => ∀ (whole : Sem Value) (pins : List (Addr × Obj)) (s : Shared), Inv X pins σ H s → wpAny (model X.prog X.w) X.A (isTrue e X.env whole) (TP X pins σ Q) X.xe s
theorem pw_ww {e : Expr} : PW X e (WW X e) := ⟨fun whole pins s _ _ _ I h => by unfold WW at h; exact h whole pins s I⟩
theorem ww_of {e : Expr} {t : TT} {σ : St} {H : Hp} {Q : Bool → Hp → Prop} (p : PW X e t) (h : t σ H Q) : WW X e σ H Q := by unfold WW; exact fun whole pins s I => p.run whole pins s σ H Q I h
def SndW (X : Cx) (W : WX) (e : Expr) (m : MT) : Prop :=
  ∀ (F : Hp) (ρ : Rho) (σ : St) (H : Hp) (Q : Bool → Hp → Prop), Good X.K F ρ σ H → Post repT X W F ρ σ H (m ρ) Q → WW X e σ H Q
theorem SndW.t {e : Expr} {m : MT} (h : SndW X W e m) : SndT X W e m := fun F ρ σ H Q g hp => wt_of pw_ww.pt (h F ρ σ H Q g hp)
def mAnd (a b : MT) : MT := fun ρ => (a ρ).bnd fun c ρ1 => if c = true then b ρ1 else .ok (false, ρ1)
def mOr (a b : MT) : MT := fun ρ => (a ρ).bnd fun c ρ1 => if c = true then .ok (true, ρ1) else b ρ1
def mNotT (a : MT) : MT := fun ρ => (a ρ).bnd fun c ρ1 => .ok (!c, ρ1)
theorem w_and1 {a : Expr} {ma : MT} (ha : SndT X W a ma) : SndW X W (.BoolOp .And [a] pos) ma := fun F ρ σ H Q g hp => ww_of (pw_and1 pt_wt) (ha F ρ σ H Q g hp)
theorem w_or1 {a : Expr} {ma : MT} (ha : SndT X W a ma) : SndW X W (.BoolOp .Or [a] pos) ma := fun F ρ σ H Q g hp => ww_of (pw_or1 pt_wt) (ha F ρ σ H Q g hp)
theorem w_and {a b : Expr} {rest : List Expr} {ma mb : MT} (ha : SndT X W a ma) (hb : SndW X W (.BoolOp .And (b :: rest) pos) mb) : SndW X W (.BoolOp .And (a :: b :: rest) pos) (mAnd ma mb) := fun F ρ σ H Q g hp => by
  refine ww_of (pw_and pt_wt pw_ww) ?_
  refine ha.then g hp fun F1 ρ1 H1 c st g1 hp1 => ?_
  cases c with
  | true => exact hb F1 ρ1 σ H1 Q g1 hp1
  | false => exact hp1 F1 H1 false Stp.refl g1 rfl
theorem w_or {a b : Expr} {rest : List Expr} {ma mb : MT} (ha : SndT X W a ma) (hb : SndW X W (.BoolOp .Or (b :: rest) pos) mb) : SndW X W (.BoolOp .Or (a :: b :: rest) pos) (mOr ma mb) := fun F ρ σ H Q g hp => by
  refine ww_of (pw_or pt_wt pw_ww) ?_
  refine ha.then g hp fun F1 ρ1 H1 c st g1 hp1 => ?_
  cases c with
  | true => exact hp1 F1 H1 true Stp.refl g1 rfl
  | false => exact hb F1 ρ1 σ H1 Q g1 hp1
theorem t_not {a : Expr} {ma : MT} (ha : SndT X W a ma) : SndT X W (.UnaryOp .Not a pos) (mNotT ma) := fun F ρ σ H Q g hp => by
  refine wt_of (pt_not pt_wt) ?_
  exact ha.then g hp fun F1 ρ1 H1 c st g1 hp1 => hp1 F1 H1 _ Stp.refl g1 rfl
/-! as values -/
def mAndV (a b : M) : M := fun ρ => (a ρ).bnd fun p ρ1 => match p with
  | .bl true => b ρ1
  | .bl false => .ok (.bl false, ρ1)
  | _ => .bad
def mOrV (a b : M) : M := fun ρ => (a ρ).bnd fun p ρ1 => match p with
  | .bl true => .ok (.bl true, ρ1)
  | .bl false => b ρ1
  | _ => .bad
theorem s_one {op} {a : Expr} {ma : M} (ha : SndE X W a ma) : SndE X W (.BoolOp op [a] pos) ma := fun F ρ σ H Q g hp => we_of (pe_one pe_we) (ha F ρ σ H Q g hp)
theorem s_and {a b : Expr} {rest : List Expr} {ma mb : M} (ha : SndE X W a ma) (hb : SndE X W (.BoolOp .And (b :: rest) pos) mb) : SndE X W (.BoolOp .And (a :: b :: rest) pos) (mAndV ma mb) := fun F ρ σ H Q g hp => by
  refine we_of (pe_and pe_we pe_we) ?_
  refine ha.then g hp fun F1 ρ1 H1 p v st g1 rp hp1 => ?_
  split at hp1
  · unfold Rep at rp; exact ⟨true, rp, by rw [if_pos rfl]; exact hb F1 ρ1 σ H1 Q g1 hp1⟩
  · unfold Rep at rp; exact ⟨false, rp, by rw [if_neg (by decide)]; exact hp1 F1 H1 _ Stp.refl g1 Rep.bl⟩
  · exact hp1.elim
theorem s_or {a b : Expr} {rest : List Expr} {ma mb : M} (ha : SndE X W a ma) (hb : SndE X W (.BoolOp .Or (b :: rest) pos) mb) : SndE X W (.BoolOp .Or (a :: b :: rest) pos) (mOrV ma mb) := fun F ρ σ H Q g hp => by
  refine we_of (pe_or pe_we pe_we) ?_
  refine ha.then g hp fun F1 ρ1 H1 p v st g1 rp hp1 => ?_
  split at hp1
  · unfold Rep at rp; exact ⟨true, rp, by rw [if_pos rfl]; exact hp1 F1 H1 _ Stp.refl g1 Rep.bl⟩
  · unfold Rep at rp; exact ⟨false, rp, by rw [if_neg (by decide)]; exact hb F1 ρ1 σ H1 Q g1 hp1⟩
  · exact hp1.elim
def mNotV (a : M) : M := fun ρ => (a ρ).bnd fun p ρ1 => Res.of ((pvTruth p).map fun k => .bl (!k)) ρ1
theorem s_not {a : Expr} {ma : M} (ha : SndE X W a ma) : SndE X W (.UnaryOp .Not a pos) (mNotV ma) := fun F ρ σ H Q g hp => by
  refine we_of (pe_notT pe_we) ?_
  refine ha.then g hp fun F1 ρ1 H1 p v st g1 rp hp1 => ?_
  cases ek : pvTruth p with
  | none => rw [ek] at hp1; exact hp1.elim
  | some k =>
    rw [ek] at hp1
    exact ⟨k, TruV.mono g1.sub rp ek, hp1 F1 H1 _ Stp.refl g1 Rep.bl⟩
def pvNeg : PV → Option PV
  | .int i => some (.int (-i))
  | _ => none
def m1 (op : PV → Option PV) (a : M) : M := fun ρ => (a ρ).bnd fun p ρ1 => Res.of (op p) ρ1
theorem s_neg {a : Expr} {ma : M} (ha : SndE X W a ma) : SndE X W (.UnaryOp .USub a pos) (m1 pvNeg ma) := fun F ρ σ H Q g hp => by
  refine we_of (pe_un un_neg pe_we) ?_
  refine ha.then g hp fun F1 ρ1 H1 p v st g1 rp hp1 => ?_
  obtain ⟨z, ez⟩ := hp1.some
  unfold pvNeg at ez
  split at ez
  · cases ez
    unfold Rep at rp
    exact ⟨_, rp, hp1 F1 H1 _ Stp.refl g1 Rep.int⟩
  · cases ez
def mIf (c : MT) (a b : M) : M := fun ρ => (c ρ).bnd fun k ρ1 => if k = true then a ρ1 else b ρ1
theorem s_if {c a b : Expr} {mc : MT} {ma mb : M} (hc : SndT X W c mc) (ha : SndE X W a ma) (hb : SndE X W b mb) : SndE X W (.IfExp c a b pos) (mIf mc ma mb) := fun F ρ σ H Q g hp => by
  refine we_of (pe_ifExp pt_wt pe_we pe_we) ?_
  refine hc.then g hp fun F1 ρ1 H1 k st g1 hp1 => ?_
  cases k with
  | true => exact ha F1 ρ1 σ H1 Q g1 hp1
  | false => exact hb F1 ρ1 σ H1 Q g1 hp1
def mIfF (c : MT) (a b : MF) : MF := fun ρ => (c ρ).bnd fun k ρ1 => if k = true then a ρ1 else b ρ1
theorem f_if {c a b : Expr} {mc : MT} {ma mb : MF} (hc : SndT X W c mc) (ha : SndF X W a ma) (hb : SndF X W b mb) : SndF X W (.IfExp c a b pos) (mIfF mc ma mb) := fun F ρ σ H Q g hp => by
  refine we_of (pe_ifExp pt_wt pe_we pe_we) ?_
  refine hc.then g hp fun F1 ρ1 H1 k st g1 hp1 => ?_
  cases k with
  | true => exact ha F1 ρ1 σ H1 Q g1 hp1
  | false => exact hb F1 ρ1 σ H1 Q g1 hp1

/-! ### built-ins by name -/
def CallOp (X : Cx) (W : WX) (r : List V → Hp → VK → Prop) (op : List PV → Option PV) : Prop :=
  ∀ (F : Hp) (ρ : Rho) (σ : St) (H : Hp) (vs : List V) (ps : List PV) (z : PV) (Q : VK), Good X.K F ρ σ H → Reps X.K F ps vs → op ps = some z → Post (repE X.K) X W F ρ σ H (.ok (z, ρ)) Q → r vs H Q
def mCallB (op : List PV → Option PV) (ms : List M) : M := fun ρ => (mArgs ms ρ).bnd fun ps ρ1 => Res.of (op ps) ρ1
section
variable {x : Str} {p : Pos} {e : Expr} {es : List Expr} {ms : List M} {id T : String} {r : List V → Hp → VK → Prop} {op : List PV → Option PV}
theorem s_callOf {e' : Expr} (hpe : PE X e' (tCB r (WA X es))) (ho : CallOp X W r op) (ha : SndA X W es (mArgs ms)) : SndE X W e' (mCallB op ms) := fun F ρ σ H Q g hp => by
  refine we_of hpe ?_
  refine ha.thenL g hp fun F1 ρ1 H1 ps vs st g1 rp len hp1 => ?_
  obtain ⟨z, ez⟩ := hp1.some
  rw [ez] at hp1
  exact ho F1 ρ1 σ H1 vs ps z Q g1 rp ez hp1
theorem s_callB (hc : CallR X (.builtin id) r) (ho : CallOp X W r op) (hg : Gl X x) (hm : X.mg x = none) (hv : bootBuiltins x = some (.builtin id)) (ha : SndA X W (e :: es) (mArgs ms)) (hn : x ≠ "__name__" := by decide) (hdb : (x == ("__debug__" : Str)) = false := by decide)
    (he : starEach (e :: es) X.env = (false, eval e X.env) :: starEach es X.env := by rfl) (hpl : (backTo pos (starEach es X.env)).any (·.1) = false := by rfl) : SndE X W (.Call (.Name x p) (e :: es) [] pos) (mCallB op ms) :=
  s_callOf (pe_callB hc hg hm hv pa_wa hn hdb he hpl) ho ha
theorem s_callTy (hc : CallR X (.type T) r) (ho : CallOp X W r op) (hg : Gl X x) (hm : X.mg x = none) (hv : bootBuiltins x = some (.type T)) (ha : SndA X W (e :: es) (mArgs ms)) (hn : x ≠ "__name__" := by decide) (hdb : (x == ("__debug__" : Str)) = false := by decide)
    (he : starEach (e :: es) X.env = (false, eval e X.env) :: starEach es X.env := by rfl) (hpl : (backTo pos (starEach es X.env)).any (·.1) = false := by rfl) : SndE X W (.Call (.Name x p) (e :: es) [] pos) (mCallB op ms) :=
  s_callOf (pe_callTy hc hg hm hv pa_wa hn hdb he hpl) ho ha
end
/-- of a list's ints, bools -/
def intsP : List PV → Option (List Int)
  | [] => some []
  | .int i :: r => (intsP r).map (i :: ·)
  | _ :: _ => none
def blsP : List PV → Option (List Bool)
  | [] => some []
  | .bl b :: r => (blsP r).map (b :: ·)
  | _ :: _ => none
theorem intsP_map : ∀ ns : List Int, intsP (ns.map .int) = some ns
  | [] => rfl
  | n :: ns => by simp [intsP, intsP_map ns]
theorem blsP_map : ∀ bs : List Bool, blsP (bs.map .bl) = some bs
  | [] => rfl
  | n :: ns => by simp [blsP, blsP_map ns]
theorem intsP_of : ∀ {xs : List PV} {ns : List Int}, intsP xs = some ns → xs = ns.map .int
  | [], ns, h => by cases h; rfl
  | x :: xs, ns, h => by
    cases x <;> simp only [intsP] at h <;> first | (cases h; done) | skip
    cases e : intsP xs with
    | none => rw [e] at h; cases h
    | some ms => rw [e] at h; cases h; rw [intsP_of e]; rfl
theorem blsP_of : ∀ {xs : List PV} {ns : List Bool}, blsP xs = some ns → xs = ns.map .bl
  | [], ns, h => by cases h; rfl
  | x :: xs, ns, h => by
    cases x <;> simp only [blsP] at h <;> first | (cases h; done) | skip
    cases e : blsP xs with
    | none => rw [e] at h; cases h
    | some ms => rw [e] at h; cases h; rw [blsP_of e]; rfl
theorem Reps.bls {K : PySem.W.Frag} {F : Hp} : ∀ {bs : List Bool} {vs : List V}, Reps K F (bs.map .bl) vs → vs = bs.map V.bl
  | [], vs, h => h.inv0
  | n :: ns, vs, h => by
    obtain ⟨v, r, rfl, x, y⟩ := Reps.inv h
    unfold Rep at x
    rw [x, Reps.bls y]; rfl
theorem Reps.one {K : PySem.W.Frag} {F : Hp} {p : PV} {vs : List V} (h : Reps K F [p] vs) : ∃ v, vs = [v] ∧ Rep K F p v := by
  obtain ⟨v, r, rfl, x, y⟩ := h.inv
  rw [y.inv0]
  exact ⟨v, rfl, x⟩
theorem Reps.two {K : PySem.W.Frag} {F : Hp} {p q : PV} {vs : List V} (h : Reps K F [p, q] vs) : ∃ v w, vs = [v, w] ∧ Rep K F p v ∧ Rep K F q w := by
  obtain ⟨v, r, rfl, x, y⟩ := h.inv
  obtain ⟨w, rfl, z⟩ := y.one
  exact ⟨v, w, rfl, x, z⟩
/-! len -/
def pvLen : PV → Option PV
  | .lst xs => some (.int xs.length)
  | .tup xs => some (.int xs.length)
  | .scr ns => some (.int ns.length)
  | .str z => if z.length ≤ sizeLine then some (.int z.length) else none
  | _ => none
def on1 (f : PV → Option PV) : List PV → Option PV
  | [p] => f p
  | _ => none
def rLen (K : PySem.W.Frag) : List V → Hp → VK → Prop := fun xs H Q => (∃ p ys, xs = [.ref p] ∧ (SqL K H p ys ∨ SqT K H p ys) ∧ Q (.int ys.length) H) ∨ (∃ z, xs = [.str z] ∧ z.length ≤ sizeLine ∧ Q (.int z.length) H)
theorem on1_inv {f : PV → Option PV} {ps : List PV} {z : PV} (h : on1 f ps = some z) : ∃ p, ps = [p] ∧ f p = some z := by
  unfold on1 at h; split at h
  · exact ⟨_, rfl, h⟩
  · cases h
theorem len_at {F : Hp} {ρ : Rho} {σ : St} {H : Hp} {v : V} {p z : PV} {Q : VK} (g : Good X.K F ρ σ H) (r : Rep X.K H p v) (h : pvLen p = some z) (hp : Post (repE X.K) X W F ρ σ H (.ok (z, ρ)) Q) : rLen X.K [v] H Q := by
  unfold pvLen at h
  split at h
  · cases h; unfold Rep at r; obtain ⟨a, vs, rfl, h1, h2⟩ := r
    exact .inl ⟨a, vs, rfl, .inl (SqL.of h1), by rw [← h2.length]; exact hp F H _ Stp.refl g Rep.int⟩
  · cases h; unfold Rep at r; obtain ⟨a, vs, rfl, h1, h2⟩ := r
    exact .inl ⟨a, vs, rfl, .inr (SqT.of h1), by rw [← h2.length]; exact hp F H _ Stp.refl g Rep.int⟩
  · rename_i ns
    cases h; unfold Rep at r; obtain ⟨a, rfl, h1⟩ := r
    refine .inl ⟨a, _, rfl, .inl h1, ?_⟩
    rw [List.length_map]; exact hp F H _ Stp.refl g Rep.int
  · split at h
    · rename_i hl; cases h; unfold Rep at r; subst r
      exact .inr ⟨_, rfl, hl, hp F H _ Stp.refl g Rep.int⟩
    · cases h
  · cases h
theorem call_lenA : CallR X (.builtin "len") (rLen X.K) := call_len_seq.or call_len_str
theorem len_op : CallOp X W (rLen X.K) (on1 pvLen) := fun F ρ σ H vs ps z Q g rp e hp => by
  obtain ⟨p, rfl, e⟩ := on1_inv e
  obtain ⟨v, rfl, r⟩ := rp.one
  exact len_at g (Rep.mono g.sub _ _ r) e hp
section
variable {x : Str} {p : Pos} {e : Expr} {m : M}
theorem s_len (hg : Gl X "len") (hm : X.mg "len" = none) (ha : SndE X W e m) (he : starEach [e] X.env = [(false, eval e X.env)] := by rfl) : SndE X W (.Call (.Name "len" p) [e] [] pos) (mCallB (on1 pvLen) [m]) :=
  s_callOf (pe_callB call_lenA hg hm PySem.boot_len pa_wa (by decide) (by decide) he rfl) len_op (sa_cons ha sa_nil he)
def mLenN (i : Nat) : M := fun ρ => Res.of ((slotV ρ i).bind pvLen) ρ
theorem s_lenN {p0 : Pos} (i : Nat) (hg : Gl X "len") (hm : X.mg "len" = none) (h : PE X (.Name x p0) (tVar i)) (he : starEach [.Name x p0] X.env = [(false, eval (.Name x p0) X.env)] := by rfl) : SndE X W (.Call (.Name "len" p) [.Name x p0] [] pos) (mLenN i) := fun F ρ σ H Q g hp => by
  refine we_of (pe_callB call_lenA hg hm PySem.boot_len (pa_cons h pa_nil he) (by decide) (by decide) he rfl) ?_
  unfold mLenN at hp
  obtain ⟨z, ez⟩ := hp.some
  cases e : slotV ρ i with
  | none => rw [e] at ez; cases ez
  | some p =>
    rw [e] at ez hp
    simp only [Option.bind_some] at ez hp
    rw [ez] at hp
    obtain ⟨v, ev, rv⟩ := g.slot e
    exact ⟨v, ev, len_at g rv ez hp⟩
end
end
end Ev

set_option Elab.async false
set_option linter.all false
set_option maxRecDepth 100000
namespace Ev
open PySem L2
section
variable {X : Cx} {W : WX} {pos : Pos}
/-! abs, int -/
def pvAbs : PV → Option PV
  | .int i => some (.int (if i < 0 then -i else i))
  | _ => none
theorem abs_op : CallOp X W (fun xs H Q => ∃ i, xs = [.int i] ∧ Q (.int (if i < 0 then -i else i)) H) (on1 pvAbs) := fun F ρ σ H vs ps z Q g rp e0 hp => by
  obtain ⟨p, rfl, e⟩ := on1_inv e0
  obtain ⟨v, rfl, r⟩ := rp.one
  unfold pvAbs at e; split at e <;> cases e
  unfold Rep at r; subst r
  exact ⟨_, rfl, hp F H _ Stp.refl g Rep.int⟩
def pvInt : PV → Option PV
  | .int i => some (.int i)
  | .bl b => some (.int (if b then 1 else 0))
  | _ => none
theorem int_op : CallOp X W (fun xs H Q => (∃ i, xs = [.int i] ∧ Q (.int i) H) ∨ ∃ k, xs = [.bl k] ∧ Q (.int (if k then 1 else 0)) H) (on1 pvInt) := fun F ρ σ H vs ps z Q g rp e0 hp => by
  obtain ⟨p, rfl, e⟩ := on1_inv e0
  obtain ⟨v, rfl, r⟩ := rp.one
  unfold pvInt at e; split at e <;> cases e
  · unfold Rep at r; subst r
    exact .inl ⟨_, rfl, hp F H _ Stp.refl g Rep.int⟩
  · unfold Rep at r; subst r
    exact .inr ⟨_, rfl, hp F H _ Stp.refl g Rep.int⟩
/-! max, min, sum, all, any -/
def maxL : List Int → Option Int
  | [] => none
  | x :: r => some (r.foldl max x)
def minL : List Int → Option Int
  | [] => none
  | x :: r => some (r.foldl min x)
theorem foldl_max_spec : ∀ (r : List Int) (x : Int), r.foldl max x ∈ x :: r ∧ ∀ y ∈ x :: r, y ≤ r.foldl max x
  | [], x => by simp
  | y :: r, x => by
    obtain ⟨h1, h2⟩ := foldl_max_spec r (max x y)
    simp only [List.foldl_cons]
    constructor
    · rcases List.mem_cons.mp h1 with h | h
      · rw [h]
        by_cases hh : y ≤ x
        · rw [Int.max_eq_left (by omega)]; exact List.mem_cons_self
        · rw [Int.max_eq_right (by omega)]; exact List.mem_cons_of_mem _ List.mem_cons_self
      · exact List.mem_cons_of_mem _ (List.mem_cons_of_mem _ h)
    · intro z hz
      have hm := h2 (max x y) List.mem_cons_self
      rcases List.mem_cons.mp hz with h | h
      · subst h; have := Int.le_max_left z y; omega
      · rcases List.mem_cons.mp h with h | h
        · subst h; have := Int.le_max_right x z; omega
        · exact h2 z (List.mem_cons_of_mem _ h)
theorem foldl_min_spec : ∀ (r : List Int) (x : Int), r.foldl min x ∈ x :: r ∧ ∀ y ∈ x :: r, r.foldl min x ≤ y
  | [], x => by simp
  | y :: r, x => by
    obtain ⟨h1, h2⟩ := foldl_min_spec r (min x y)
    simp only [List.foldl_cons]
    constructor
    · rcases List.mem_cons.mp h1 with h | h
      · rw [h]
        by_cases hh : x ≤ y
        · rw [Int.min_eq_left (by omega)]; exact List.mem_cons_self
        · rw [Int.min_eq_right (by omega)]; exact List.mem_cons_of_mem _ List.mem_cons_self
      · exact List.mem_cons_of_mem _ (List.mem_cons_of_mem _ h)
    · intro z hz
      have hm := h2 (min x y) List.mem_cons_self
      rcases List.mem_cons.mp hz with h | h
      · subst h; have := Int.min_le_left z y; omega
      · rcases List.mem_cons.mp h with h | h
        · subst h; have := Int.min_le_right x z; omega
        · exact h2 z (List.mem_cons_of_mem _ h)
def pvMax : List PV → Option PV
  | [.int i, .int j] => some (.int (max i j))
  | [.lst xs] => (intsP xs).bind fun ns => (maxL ns).map .int
  | _ => none
def pvMin : List PV → Option PV
  | [.int i, .int j] => some (.int (min i j))
  | [.lst xs] => (intsP xs).bind fun ns => (minL ns).map .int
  | _ => none
theorem max_op : CallOp X W (fun xs H Q => (∃ i j, xs = [.int i, .int j] ∧ Q (.int (if j > i then j else i)) H) ∨ rMax X.K xs H Q) pvMax := fun F ρ σ H vs ps z Q g rp e hp => by
  unfold pvMax at e
  split at e
  · rename_i i j
    cases e
    obtain ⟨v, w, rfl, r1, r2⟩ := rp.two
    unfold Rep at r1 r2; subst r1 r2
    refine .inl ⟨i, j, rfl, ?_⟩
    have : (if j > i then j else i) = max i j := by
      by_cases h : j > i
      · rw [if_pos h, Int.max_eq_right (by omega)]
      · rw [if_neg h, Int.max_eq_left (by omega)]
    rw [this]
    exact hp F H _ Stp.refl g Rep.int
  · rename_i xs
    cases e1 : intsP xs with
    | none => rw [e1] at e; cases e
    | some ns =>
      rw [e1] at e
      cases ns with
      | nil => cases e
      | cons n r =>
        cases e
        obtain ⟨v, rfl, r1⟩ := rp.one
        rw [intsP_of e1] at r1
        unfold Rep at r1
        obtain ⟨a, ws, rfl, h1, h2⟩ := r1
        rw [Reps.ints] at h2
        subst h2
        obtain ⟨f1, f2⟩ := foldl_max_spec r n
        refine .inr ⟨a, n :: r, rfl, SqL.of (g.sub _ _ h1), by simp, fun m hm hy => ?_⟩
        have : m = r.foldl max n := by
          have a1 := hy _ f1
          have a2 := f2 _ hm
          omega
        rw [this]
        exact hp F H _ Stp.refl g Rep.int
  · cases e
theorem min_op : CallOp X W (fun xs H Q => (∃ i j, xs = [.int i, .int j] ∧ Q (.int (if j < i then j else i)) H) ∨ rMin X.K xs H Q) pvMin := fun F ρ σ H vs ps z Q g rp e hp => by
  unfold pvMin at e
  split at e
  · rename_i i j
    cases e
    obtain ⟨v, w, rfl, r1, r2⟩ := rp.two
    unfold Rep at r1 r2; subst r1 r2
    refine .inl ⟨i, j, rfl, ?_⟩
    have : (if j < i then j else i) = min i j := by
      by_cases h : j < i
      · rw [if_pos h, Int.min_eq_right (by omega)]
      · rw [if_neg h, Int.min_eq_left (by omega)]
    rw [this]
    exact hp F H _ Stp.refl g Rep.int
  · rename_i xs
    cases e1 : intsP xs with
    | none => rw [e1] at e; cases e
    | some ns =>
      rw [e1] at e
      cases ns with
      | nil => cases e
      | cons n r =>
        cases e
        obtain ⟨v, rfl, r1⟩ := rp.one
        rw [intsP_of e1] at r1
        unfold Rep at r1
        obtain ⟨a, ws, rfl, h1, h2⟩ := r1
        rw [Reps.ints] at h2
        subst h2
        obtain ⟨f1, f2⟩ := foldl_min_spec r n
        refine .inr ⟨a, n :: r, rfl, SqL.of (g.sub _ _ h1), by simp, fun m hm hy => ?_⟩
        have : m = r.foldl min n := by
          have a1 := hy _ f1
          have a2 := f2 _ hm
          omega
        rw [this]
        exact hp F H _ Stp.refl g Rep.int
  · cases e
def pvSum : PV → Option PV
  | .lst xs => (intsP xs).map fun ns => .int ns.sum
  | _ => none
theorem sum_op : CallOp X W (rSum X.K) (on1 pvSum) := fun F ρ σ H vs ps z Q g rp e0 hp => by
  obtain ⟨p, rfl, e⟩ := on1_inv e0
  obtain ⟨v, rfl, r⟩ := rp.one
  unfold pvSum at e
  split at e
  · rename_i xs
    cases e1 : intsP xs with
    | none => rw [e1] at e; cases e
    | some ns =>
      rw [e1] at e
      cases e
      rw [intsP_of e1] at r
      unfold Rep at r
      obtain ⟨a, ws, rfl, h1, h2⟩ := r
      rw [Reps.ints] at h2
      subst h2
      exact ⟨a, ns, rfl, SqL.of (g.sub _ _ h1), hp F H _ Stp.refl g Rep.int⟩
  · cases e
def pvAll : PV → Option PV
  | .lst xs => (blsP xs).map fun bs => .bl (bs.all id)
  | _ => none
def pvAny : PV → Option PV
  | .lst xs => (blsP xs).map fun bs => .bl (bs.any id)
  | _ => none
theorem all_op : CallOp X W (rAll X.K) (on1 pvAll) := fun F ρ σ H vs ps z Q g rp e0 hp => by
  obtain ⟨p, rfl, e⟩ := on1_inv e0
  obtain ⟨v, rfl, r⟩ := rp.one
  unfold pvAll at e
  split at e
  · rename_i xs
    cases e1 : blsP xs with
    | none => rw [e1] at e; cases e
    | some ns =>
      rw [e1] at e
      cases e
      rw [blsP_of e1] at r
      unfold Rep at r
      obtain ⟨a, ws, rfl, h1, h2⟩ := r
      have := Reps.bls h2
      subst this
      exact ⟨a, ns, rfl, SqL.of (g.sub _ _ h1), hp F H _ Stp.refl g Rep.bl⟩
  · cases e
theorem any_op : CallOp X W (rAny X.K) (on1 pvAny) := fun F ρ σ H vs ps z Q g rp e0 hp => by
  obtain ⟨p, rfl, e⟩ := on1_inv e0
  obtain ⟨v, rfl, r⟩ := rp.one
  unfold pvAny at e
  split at e
  · rename_i xs
    cases e1 : blsP xs with
    | none => rw [e1] at e; cases e
    | some ns =>
      rw [e1] at e
      cases e
      rw [blsP_of e1] at r
      unfold Rep at r
      obtain ⟨a, ws, rfl, h1, h2⟩ := r
      have := Reps.bls h2
      subst this
      exact ⟨a, ns, rfl, SqL.of (g.sub _ _ h1), hp F H _ Stp.refl g Rep.bl⟩
  · cases e
/-! tuple(x), list(x) -/
def pvTuple : PV → Option PV
  | .lst xs => some (.tup xs)
  | .tup xs => some (.tup xs)
  | _ => none
theorem tuple_op : CallOp X W (fun xs H Q => ∃ p ys, xs = [.ref p] ∧ ((SqL X.K H p ys ∧ ∀ l, H l = none → Q (.ref l) (upd H l (.tup ys))) ∨ (SqT X.K H p ys ∧ Q (.ref p) H))) (on1 pvTuple) := fun F ρ σ H vs ps z Q g rp e0 hp => by
  obtain ⟨p, rfl, e⟩ := on1_inv e0
  obtain ⟨v, rfl, r⟩ := rp.one
  unfold pvTuple at e
  split at e
  · cases e
    unfold Rep at r
    obtain ⟨a, ws, rfl, h1, h2⟩ := r
    exact ⟨a, ws, rfl, .inl ⟨SqL.of (g.sub _ _ h1), Post.newT g hp h2⟩⟩
  · cases e
    have r' := r
    unfold Rep at r
    obtain ⟨a, ws, rfl, h1, h2⟩ := r
    exact ⟨a, ws, rfl, .inr ⟨SqT.of (g.sub _ _ h1), hp F H _ Stp.refl g r'⟩⟩
  · cases e
/-- a call that makes a new list -/
def CallOpF (X : Cx) (W : WX) (r : List V → Hp → VK → Prop) (op : List PV → Option (List PV)) : Prop :=
  ∀ (F : Hp) (ρ : Rho) (σ : St) (H : Hp) (vs : List V) (ps : List PV) (z : List PV) (Q : VK), Good X.K F ρ σ H → Reps X.K F ps vs → op ps = some z → Post (repF X.K σ) X W F ρ σ H (.ok (z, ρ)) Q → r vs H Q
def mCallF (op : List PV → Option (List PV)) (ms : List M) : MF := fun ρ => (mArgs ms ρ).bnd fun ps ρ1 => Res.of (op ps) ρ1
theorem f_callOf {e' : Expr} {es : List Expr} {ms : List M} {r : List V → Hp → VK → Prop} {op : List PV → Option (List PV)} (hpe : PE X e' (tCB r (WA X es))) (ho : CallOpF X W r op) (ha : SndA X W es (mArgs ms)) : SndF X W e' (mCallF op ms) := fun F ρ σ H Q g hp => by
  refine we_of hpe ?_
  refine ha.thenL g hp fun F1 ρ1 H1 ps vs st g1 rp len hp1 => ?_
  obtain ⟨z, ez⟩ := hp1.some
  rw [ez] at hp1
  exact ho F1 ρ1 σ H1 vs ps z Q g1 rp ez hp1
def pvList : List PV → Option (List PV)
  | [.lst xs] => some xs
  | [.tup xs] => some xs
  | [.scr ns] => some (ns.map .int)
  | _ => none
theorem list_op : CallOpF X W (fun xs H Q => ∃ p ys, xs = [.ref p] ∧ (SqL X.K H p ys ∨ SqT X.K H p ys) ∧ ∀ l, H l = none → Q (.ref l) (upd H l (.lst ys))) pvList := fun F ρ σ H vs ps z Q g rp e hp => by
  unfold pvList at e
  split at e
  · cases e
    obtain ⟨v, rfl, r⟩ := rp.one
    unfold Rep at r
    obtain ⟨a, ws, rfl, h1, h2⟩ := r
    exact ⟨a, ws, rfl, .inl (SqL.of (g.sub _ _ h1)), Post.newF g hp h2⟩
  · cases e
    obtain ⟨v, rfl, r⟩ := rp.one
    unfold Rep at r
    obtain ⟨a, ws, rfl, h1, h2⟩ := r
    exact ⟨a, ws, rfl, .inr (SqT.of (g.sub _ _ h1)), Post.newF g hp h2⟩
  · cases e
    obtain ⟨v, rfl, r⟩ := rp.one
    unfold Rep at r
    obtain ⟨a, rfl, h1⟩ := r
    exact ⟨a, _, rfl, .inl (g.sub.seq h1), Post.newF g hp (Reps.ints.mpr rfl)⟩
  · cases e
section
variable {p : Pos} {e e2 : Expr} {m m' : M}
theorem s_abs (hg : Gl X "abs") (hm : X.mg "abs" = none) (ha : SndE X W e m) (he : starEach [e] X.env = [(false, eval e X.env)] := by rfl) : SndE X W (.Call (.Name "abs" p) [e] [] pos) (mCallB (on1 pvAbs) [m]) :=
  s_callOf (pe_callB call_abs hg hm (by decide +kernel) pa_wa (by decide) (by decide) he rfl) abs_op (sa_cons ha sa_nil he)
theorem s_int' (hg : Gl X "int") (hm : X.mg "int" = none) (ha : SndE X W e m) (he : starEach [e] X.env = [(false, eval e X.env)] := by rfl) : SndE X W (.Call (.Name "int" p) [e] [] pos) (mCallB (on1 pvInt) [m]) :=
  s_callOf (pe_callTy call_int1 hg hm (by decide +kernel) pa_wa (by decide) (by decide) he rfl) int_op (sa_cons ha sa_nil he)
theorem s_max1 (hc : X.calm = true) (hg : Gl X "max") (hm : X.mg "max" = none) (ha : SndE X W e m) (he : starEach [e] X.env = [(false, eval e X.env)] := by rfl) : SndE X W (.Call (.Name "max" p) [e] [] pos) (mCallB pvMax [m]) :=
  s_callOf (pe_callB ((call_max2 hc).or (cr_max hc)) hg hm (by decide +kernel) pa_wa (by decide) (by decide) he rfl) max_op (sa_cons ha sa_nil he)
theorem s_min1 (hc : X.calm = true) (hg : Gl X "min") (hm : X.mg "min" = none) (ha : SndE X W e m) (he : starEach [e] X.env = [(false, eval e X.env)] := by rfl) : SndE X W (.Call (.Name "min" p) [e] [] pos) (mCallB pvMin [m]) :=
  s_callOf (pe_callB ((call_min2 hc).or (cr_min hc)) hg hm (by decide +kernel) pa_wa (by decide) (by decide) he rfl) min_op (sa_cons ha sa_nil he)
theorem s_max2 (hc : X.calm = true) (hg : Gl X "max") (hm : X.mg "max" = none) (ha : SndE X W e m) (hb : SndE X W e2 m') (he : starEach [e, e2] X.env = (false, eval e X.env) :: starEach [e2] X.env := by rfl) (he2 : starEach [e2] X.env = [(false, eval e2 X.env)] := by rfl)
    (hpl : (backTo pos (starEach [e2] X.env)).any (·.1) = false := by rfl) : SndE X W (.Call (.Name "max" p) [e, e2] [] pos) (mCallB pvMax [m, m']) :=
  s_callOf (pe_callB ((call_max2 hc).or (cr_max hc)) hg hm (by decide +kernel) pa_wa (by decide) (by decide) he hpl) max_op (sa_cons ha (sa_cons hb sa_nil he2) he)
theorem s_min2 (hc : X.calm = true) (hg : Gl X "min") (hm : X.mg "min" = none) (ha : SndE X W e m) (hb : SndE X W e2 m') (he : starEach [e, e2] X.env = (false, eval e X.env) :: starEach [e2] X.env := by rfl) (he2 : starEach [e2] X.env = [(false, eval e2 X.env)] := by rfl)
    (hpl : (backTo pos (starEach [e2] X.env)).any (·.1) = false := by rfl) : SndE X W (.Call (.Name "min" p) [e, e2] [] pos) (mCallB pvMin [m, m']) :=
  s_callOf (pe_callB ((call_min2 hc).or (cr_min hc)) hg hm (by decide +kernel) pa_wa (by decide) (by decide) he hpl) min_op (sa_cons ha (sa_cons hb sa_nil he2) he)
theorem s_sum (hc : X.calm = true) (hg : Gl X "sum") (hm : X.mg "sum" = none) (ha : SndE X W e m) (he : starEach [e] X.env = [(false, eval e X.env)] := by rfl) : SndE X W (.Call (.Name "sum" p) [e] [] pos) (mCallB (on1 pvSum) [m]) :=
  s_callOf (pe_callB (cr_sum hc) hg hm (by decide +kernel) pa_wa (by decide) (by decide) he rfl) sum_op (sa_cons ha sa_nil he)
theorem s_all (hc : X.calm = true) (hg : Gl X "all") (hm : X.mg "all" = none) (ha : SndE X W e m) (he : starEach [e] X.env = [(false, eval e X.env)] := by rfl) : SndE X W (.Call (.Name "all" p) [e] [] pos) (mCallB (on1 pvAll) [m]) :=
  s_callOf (pe_callB (cr_all hc) hg hm (by decide +kernel) pa_wa (by decide) (by decide) he rfl) all_op (sa_cons ha sa_nil he)
theorem s_any (hc : X.calm = true) (hg : Gl X "any") (hm : X.mg "any" = none) (ha : SndE X W e m) (he : starEach [e] X.env = [(false, eval e X.env)] := by rfl) : SndE X W (.Call (.Name "any" p) [e] [] pos) (mCallB (on1 pvAny) [m]) :=
  s_callOf (pe_callB (cr_any hc) hg hm (by decide +kernel) pa_wa (by decide) (by decide) he rfl) any_op (sa_cons ha sa_nil he)
theorem s_tuple (hg : Gl X "tuple") (hm : X.mg "tuple" = none) (ha : SndE X W e m) (he : starEach [e] X.env = [(false, eval e X.env)] := by rfl) : SndE X W (.Call (.Name "tuple" p) [e] [] pos) (mCallB (on1 pvTuple) [m]) :=
  s_callOf (pe_callTy call_tuple_of hg hm (by decide +kernel) pa_wa (by decide) (by decide) he rfl) tuple_op (sa_cons ha sa_nil he)
theorem f_list (hg : Gl X "list") (hm : X.mg "list" = none) (ha : SndE X W e m) (he : starEach [e] X.env = [(false, eval e X.env)] := by rfl) : SndF X W (.Call (.Name "list" p) [e] [] pos) (mCallF pvList [m]) :=
  f_callOf (pe_callTy call_list_of hg hm (by decide +kernel) pa_wa (by decide) (by decide) he rfl) list_op (sa_cons ha sa_nil he)
theorem s_list (hg : Gl X "list") (hm : X.mg "list" = none) (ha : SndE X W e m) (he : starEach [e] X.env = [(false, eval e X.env)] := by rfl) : SndE X W (.Call (.Name "list" p) [e] [] pos) (mFrz (mCallF pvList [m])) := (f_list hg hm ha he).snd
end
/-! isinstance -/
inductive Ty where
  | non | bool | int | str | tuple | list | dict
  deriving DecidableEq
def pvTy : PV → Option Ty
  | .non => some .non
  | .bl _ => some .bool
  | .int _ => some .int
  | .str _ => some .str
  | .tup _ => some .tuple
  | .lst _ => some .list
  | .scr _ => some .list
  | .dic _ _ => some .dict
  | .ty _ => none
def Ty.nm : Ty → String
  | .non => "NoneType" | .bool => "bool" | .int => "int" | .str => "str" | .tuple => "tuple" | .list => "list" | .dict => "dict"
def tyIs (t : Ty) (n : String) : Option Bool :=
  if n = "int" then some (decide (t = .int) || decide (t = .bool))
  else if n = "bool" then some (decide (t = .bool))
  else if n = "str" then some (decide (t = .str))
  else if n = "tuple" then some (decide (t = .tuple))
  else if n = "list" then some (decide (t = .list))
  else none
theorem tyIs_kit {t : Ty} {n : String} {b : Bool} (h : tyIs t n = some b) : kitB t.nm n = some b := by
  unfold tyIs at h
  split at h
  · rename_i e; subst e; cases t <;> (simp at h; subst h; decide +kernel)
  split at h
  · rename_i e; subst e; cases t <;> (simp at h; subst h; decide +kernel)
  split at h
  · rename_i e; subst e; cases t <;> (simp at h; subst h; decide +kernel)
  split at h
  · rename_i e; subst e; cases t <;> (simp at h; subst h; decide +kernel)
  split at h
  · rename_i e; subst e; cases t <;> (simp at h; subst h; decide +kernel)
  · cases h
theorem pvTy_tyX {K : PySem.W.Frag} {F : Hp} {p : PV} {v : V} {t : Ty} (r : Rep K F p v) (h : pvTy p = some t) (hs : ∀ ns, p ≠ .scr ns) : TyX K F v (.type t.nm) := by
  cases p with
  | non => unfold Rep at r; subst r; cases h; exact .base .non
  | bl b => unfold Rep at r; subst r; cases h; exact .base (.bl b)
  | int b => unfold Rep at r; subst r; cases h; exact .base (.int b)
  | str b => unfold Rep at r; subst r; cases h; exact .base (.str b)
  | tup xs => unfold Rep at r; obtain ⟨a, vs, rfl, h1, h2⟩ := r; cases h; exact .base (.tup h1)
  | lst xs => unfold Rep at r; obtain ⟨a, vs, rfl, h1, h2⟩ := r; cases h; exact .base (.lst h1)
  | dic ks xs => unfold Rep at r; obtain ⟨a, vs, rfl, h1, h2⟩ := r; cases h; exact .base (.dK h1)
  | scr ns => exact absurd rfl (hs ns)
  | ty n => cases h
def tysP : List PV → Option (List String)
  | [] => some []
  | .ty n :: r => (tysP r).map (n :: ·)
  | _ :: _ => none
def tyAny (t : Ty) : List String → Option Bool
  | [] => some false
  | n :: r => (tyIs t n).bind fun b => if b then some true else tyAny t r
def isScr : PV → Bool
  | .scr _ => true
  | _ => false
def pvIsI : List PV → Option PV
  | [p, .ty n] => if isScr p then none else (pvTy p).bind fun t => (tyIs t n).map .bl
  | [p, .tup ts] => if isScr p then none else (pvTy p).bind fun t => (tysP ts).bind fun ns => (tyAny t ns).map .bl
  | _ => none
theorem tysP_of {K : PySem.W.Frag} {F : Hp} : ∀ {ts : List PV} {ns : List String} {vs : List V}, tysP ts = some ns → Reps K F ts vs → Paired ClsV vs (ns.map Value.type)
  | [], ns, vs, h, r => by cases h; rw [r.inv0]; exact .nil
  | x :: ts, ns, vs, h, r => by
    obtain ⟨v, ws, rfl, a, b⟩ := r.inv
    cases x <;> simp only [tysP] at h <;> first | (cases h; done) | skip
    rename_i n
    cases e : tysP ts with
    | none => rw [e] at h; cases h
    | some ms =>
      rw [e] at h; cases h
      unfold Rep at a
      subst a
      exact .cons (.ty n) (tysP_of e b)
theorem tyAny_kit {K : PySem.W.Frag} {t : Ty} : ∀ {ns : List String} {b : Bool}, tyAny t ns = some b → PySem.W.kitAny K (.type t.nm) (ns.map Value.type) = some b
  | [], b, h => by cases h; exact kitAny_nil
  | n :: ns, b, h => by
    unfold tyAny at h
    cases e : tyIs t n with
    | none => rw [e] at h; cases h
    | some c =>
      rw [e] at h
      simp only [Option.bind_some] at h
      refine kitAny_cons (kit_ty (tyIs_kit e)) (fun hc => ?_) (fun hc => ?_)
      · subst hc
        rw [if_neg (by decide)] at h
        exact tyAny_kit h
      · subst hc
        rw [if_pos rfl] at h
        cases h; rfl
theorem isi_op : CallOp X W (fun vs H Q => rIsi X.K vs H Q ∨ rIsiT X.K vs H Q) pvIsI := fun F ρ σ H vs ps z Q g rp e hp => by
  have ns_of : ∀ {p : PV}, ¬ isScr p = true → ∀ ns, p ≠ .scr ns := fun {p} h ns e => h (by rw [e]; rfl)
  unfold pvIsI at e
  split at e
  · rename_i p n
    split at e
    · cases e
    · rename_i hs
      cases e1 : pvTy p with
      | none => rw [e1] at e; cases e
      | some t =>
        rw [e1] at e
        simp only [Option.bind_some] at e
        cases e2 : tyIs t n with
        | none => rw [e2] at e; cases e
        | some b =>
          rw [e2] at e
          cases e
          obtain ⟨v, w, rfl, r1, r2⟩ := rp.two
          unfold Rep at r2
          subst r2
          exact .inl ⟨v, .ty n, .type t.nm, .type n, b, rfl, .ty n, pvTy_tyX (Rep.mono g.sub _ _ r1) e1 (ns_of hs), kit_ty (tyIs_kit e2), hp F H _ Stp.refl g Rep.bl⟩
  · rename_i p ts
    split at e
    · cases e
    · rename_i hs
      cases e1 : pvTy p with
      | none => rw [e1] at e; cases e
      | some t =>
        rw [e1] at e
        simp only [Option.bind_some] at e
        cases e2 : tysP ts with
        | none => rw [e2] at e; cases e
        | some ns =>
          rw [e2] at e
          simp only [Option.bind_some] at e
          cases e3 : tyAny t ns with
          | none => rw [e3] at e; cases e
          | some b =>
            rw [e3] at e
            cases e
            obtain ⟨v, w, rfl, r1, r2⟩ := rp.two
            unfold Rep at r2
            obtain ⟨a, ws, rfl, h1, h2⟩ := r2
            exact .inr ⟨v, a, ws, .type t.nm, _, b, rfl, g.sub _ _ h1, tysP_of e2 h2, pvTy_tyX (Rep.mono g.sub _ _ r1) e1 (ns_of hs), tyAny_kit e3, hp F H _ Stp.refl g Rep.bl⟩
  · cases e
theorem s_isi {p : Pos} {e e2 : Expr} {m m' : M} (hg : Gl X "isinstance") (hm : X.mg "isinstance" = none) (ha : SndE X W e m) (hb : SndE X W e2 m') (he : starEach [e, e2] X.env = (false, eval e X.env) :: starEach [e2] X.env := by rfl) (he2 : starEach [e2] X.env = [(false, eval e2 X.env)] := by rfl)
    (hpl : (backTo pos (starEach [e2] X.env)).any (·.1) = false := by rfl) : SndE X W (.Call (.Name "isinstance" p) [e, e2] [] pos) (mCallB pvIsI [m, m']) :=
  s_callOf (pe_callB (call_isi.or call_isiT) hg hm (by decide +kernel) pa_wa (by decide) (by decide) he hpl) isi_op (sa_cons ha (sa_cons hb sa_nil he2) he)
/-! slices -/
def cutP {α : Type} (xs : List α) (lo hi : Option Int) : List α := (xs.drop (HT.sIx xs.length 0 lo)).take (HT.sIx xs.length xs.length hi - HT.sIx xs.length 0 lo)
theorem Reps.cut {K : PySem.W.Frag} {F : Hp} {xs : List PV} {vs : List V} (r : Reps K F xs vs) (lo hi : Option Int) : Reps K F (cutP xs lo hi) (cutV vs lo hi) := by
  unfold cutP cutV
  rw [r.length]
  exact (r.drop _).take _
def pvCut : PV → Option Int → Option Int → Option PV
  | .lst xs, lo, hi => some (.lst (cutP xs lo hi))
  | .tup xs, lo, hi => some (.tup (cutP xs lo hi))
  | .scr ns, lo, hi => some (.lst ((cutP ns lo hi).map .int))
  | .str z, lo, hi => if z.length ≤ sizeLine then some (.str (cutS z lo hi)) else none
  | _, _, _ => none
/-- a part of a slice -/
def mPart : Option M → Rho → Res (Option Int × Rho)
  | none => fun ρ => .ok (none, ρ)
  | some m => fun ρ => (m ρ).bnd fun p ρ1 => match p with
    | .int i => .ok (some i, ρ1)
    | _ => .bad
def mCut (m : M) (lo hi : Option M) : M := fun ρ => (m ρ).bnd fun p ρ1 => (mPart lo ρ1).bnd fun l ρ2 => (mPart hi ρ2).bnd fun h ρ3 => Res.of (pvCut p l h) ρ3
/-- a slice's part, by its reading -/
structure SndO (X : Cx) (W : WX) (e : Option Expr) (m : Option M) where
  t : TO
  po : PO X e t
  snd : ∀ {α' β' : Type} {rep' : RepT α' β'} [RepM rep'] {Q' : β' → Hp → Prop} (F : Hp) (ρ : Rho) (σ : St) (H : Hp) (f : Option Int → Rho → Res (α' × Rho)) (R : Option Int → Hp → Prop), Good X.K F ρ σ H → Post rep' X W F ρ σ H ((mPart m ρ).bnd f) Q' →
    (∀ F1 ρ1 H1 l, Stp σ F ρ H F1 ρ1 H1 → Good X.K F1 ρ1 σ H1 → Post rep' X W F1 ρ1 σ H1 (f l ρ1) Q' → R l H1) → t σ H R
def so_none : SndO X W none none := ⟨tNoPart, po_none, fun F ρ σ H f R g hp k => k F ρ H none Stp.refl g hp⟩
def so_some {e : Expr} {m : M} (h : SndE X W e m) : SndO X W (some e) (some m) := ⟨tPart (WE X e), po_some pe_we, fun {α' β' rep' _ Q'} F ρ σ H f R g hp k => by
  have hp' : Post rep' X W F ρ σ H ((m ρ).bnd fun p ρ1 => (match p with | .int i => .ok (some i, ρ1) | _ => .bad : Res (Option Int × Rho)).bnd f) Q' := by
    simp only [mPart] at hp
    cases h1 : m ρ with
    | bad => rw [h1] at hp; exact hp
    | exc x r => rw [h1] at hp; exact hp
    | ok z => obtain ⟨p, ρ1⟩ := z; rw [h1] at hp; exact hp
  refine h.then g hp' fun F1 ρ1 H1 p v st g1 rp hp1 => ?_
  split at hp1
  · unfold Rep at rp
    exact ⟨_, rp, k F1 ρ1 H1 _ st g1 hp1⟩
  · exact hp1.elim⟩
theorem cut_at {F : Hp} {ρ : Rho} {σ : St} {H : Hp} {v : V} {p z : PV} {lo hi : Option Int} {Q : VK} (g : Good X.K F ρ σ H) (r : Rep X.K F p v) (h : pvCut p lo hi = some z) (hp : Post (repE X.K) X W F ρ σ H (.ok (z, ρ)) Q) :
    rSlL X.K v lo hi H Q ∨ (rSlA X.K v lo hi H Q ∨ rSlS v lo hi H Q) := by
  cases p with
  | lst xs =>
    cases h
    unfold Rep at r
    obtain ⟨a, ws, rfl, h1, h2⟩ := r
    exact .inl ⟨a, ws, rfl, SqL.of (g.sub _ _ h1), Post.newL g hp (h2.cut _ _)⟩
  | tup xs =>
    cases h
    have r' := r
    unfold Rep at r
    obtain ⟨a, ws, rfl, h1, h2⟩ := r
    refine .inr (.inl ⟨a, ws, rfl, SqT.of (g.sub _ _ h1), fun hw => ?_, fun _ => Post.newT g hp (h2.cut _ _)⟩)
    have e : cutP xs lo hi = xs := by
      unfold cutP
      rw [h2.length, hw.1, hw.2]
      simp [← h2.length]
    rw [e] at hp
    exact hp F H _ Stp.refl g r'
  | scr ns =>
    cases h
    unfold Rep at r
    obtain ⟨a, rfl, h1⟩ := r
    refine .inl ⟨a, _, rfl, g.sub.seq h1, ?_⟩
    refine Post.newL g hp ?_
    rw [Reps.ints]
    unfold cutV cutP
    rw [List.length_map, List.map_take, List.map_drop]
  | str z' =>
    simp only [pvCut] at h
    split at h
    · rename_i hl
      cases h
      unfold Rep at r
      exact .inr (.inr ⟨_, r, hl, hp F H _ Stp.refl g Rep.str⟩)
    · cases h
  | non => cases h
  | bl _ => cases h
  | int _ => cases h
  | dic _ _ => cases h
  | ty _ => cases h
theorem s_cut {e : Expr} {m : M} {lo hi : Option Expr} {ml mh : Option M} {p2 : Pos} (he : SndE X W e m) (hl : SndO X W lo ml) (hh : SndO X W hi mh) : SndE X W (.Subscript e (.Slice lo hi none p2) pos) (mCut m ml mh) := fun F ρ σ H Q g hp => by
  refine we_of (pe_slice (sl_list.or (sl_tupA.or sl_str)) pe_we hl.po hh.po) ?_
  refine he.then g hp fun F1 ρ1 H1 p v _ g1 rp hp1 => ?_
  refine hl.snd F1 ρ1 σ H1 _ _ g1 hp1 fun F2 ρ2 H2 l st2 g2 hp2 => ?_
  refine hh.snd F2 ρ2 σ H2 _ _ g2 hp2 fun F3 ρ3 H3 h st3 g3 hp3 => ?_
  obtain ⟨z, ez⟩ := hp3.some
  rw [ez] at hp3
  exact cut_at g3 (Rep.mono st3.ff _ _ (Rep.mono st2.ff _ _ rp)) ez hp3
/-- xs[::-1] of a list -/
def pvRevL : PV → Option PV
  | .lst xs => some (.lst xs.reverse)
  | _ => none
theorem s_revL {e : Expr} {m : M} {k : Nat} {p1 p2 p3 : Pos} (he : SndE X W e m) : SndE X W (.Subscript e (.Slice none none (some (.UnaryOp .USub (.Constant (.int 1) k p1) p2)) p3) pos) (m1 pvRevL m) := fun F ρ σ H Q g hp => by
  refine we_of (pe_revL pe_we) ?_
  refine he.then g hp fun F1 ρ1 H1 p v _ g1 rp hp1 => ?_
  obtain ⟨z, ez⟩ := hp1.some
  rw [ez] at hp1
  unfold pvRevL at ez
  split at ez
  · cases ez
    unfold Rep at rp
    obtain ⟨a, ws, rfl, h1, h2⟩ := rp
    exact ⟨a, ws, rfl, SqL.of (g1.sub _ _ h1), Post.newL g1 hp1 h2.reverse⟩
  · cases ez
end
end Ev

set_option Elab.async false
set_option linter.all false
set_option maxRecDepth 100000
namespace Ev
open PySem L2
/-! ### calls of the text's own defs -/
inductive Ret where
  | ok (p : PV) | exc (x : Exc) | bad
/-- what is known for good from now on and wasn't is new -/
def NewF (H F F' : Hp) : Prop := ∀ a o, H a = some o → F a = none → F' a = none
/-- a def that changes nothing: its value by its arguments' -/
abbrev FP := List PV → Ret
def spP (K : PySem.W.Frag) (mg : Str → Option Value) (n : Nat) (f : FP) : Sp := fun vs H Q E => vs.length = n ∧ ∃ F ps, Same F H ∧ Reps K F ps vs ∧ (match f ps with
  | .ok p => ∀ F' H' v, Same F F' → Same F' H' → Same H H' → NewF H F F' → Rep K F' p v → Q v H'
  | .exc x => ∀ F' H' cls d, Same F F' → Same F' H' → Same H H' → NewF H F F' → ExcAt K mg F' x cls d → E cls d H'
  | .bad => False)
/-- a def whose first argument is a list that it changes -/
inductive RetB where
  | ok (p : PV) (ys : List PV) | exc (x : Exc) (ys : List PV) | bad
abbrev FB := List PV → List PV → RetB
/-- all but b is as it was -/
def SameBut (b : Addr) (H H' : Hp) : Prop := ∀ q o, q ≠ b → H q = some o → H' q = some o
def NewFB (b : Addr) (H F F' : Hp) : Prop := ∀ a o, a ≠ b → H a = some o → F a = none → F' a = none
def spB (K : PySem.W.Frag) (mg : Str → Option Value) (n : Nat) (f : FB) : Sp := fun vs H Q E => vs.length = n + 1 ∧ ∃ F b bs xs ps rest, vs = .ref b :: rest ∧ Same F H ∧ F b = none ∧ H b = some (.lst bs) ∧ Reps K F xs bs ∧ Reps K F ps rest ∧ (match f xs ps with
  | .ok p ys => ∀ F' H' v bs', Same F F' → Same F' H' → F' b = none → H' b = some (.lst bs') → Reps K F' ys bs' → SameBut b H H' → NewFB b H F F' → Rep K F' p v → Q v H'
  | .exc x ys => ∀ F' H' cls d bs', Same F F' → Same F' H' → F' b = none → H' b = some (.lst bs') → Reps K F' ys bs' → SameBut b H H' → NewFB b H F F' → ExcAt K mg F' x cls d → E cls d H'
  | .bad => False)
/-- a def whose value is a new list of the caller's own -/
inductive RetF where
  | ok (xs : List PV) | exc (x : Exc) | bad
abbrev FF := List PV → RetF
def spF (K : PySem.W.Frag) (mg : Str → Option Value) (n : Nat) (f : FF) : Sp := fun vs H Q E => vs.length = n ∧ ∃ F ps, Same F H ∧ Reps K F ps vs ∧ (match f ps with
  | .ok xs => ∀ F' H' a ws, Same F F' → Same F' H' → Same H H' → NewF H F F' → H a = none → F' a = none → H' a = some (.lst ws) → Reps K F' xs ws → Q (.ref a) H'
  | .exc x => ∀ F' H' cls d, Same F F' → Same F' H' → Same H H' → NewF H F F' → ExcAt K mg F' x cls d → E cls d H'
  | .bad => False)
/-- what a place in the text is known to be in -/
structure Ctx (X : Cx) (W : WX) : Prop where
  tk : Takes X W
  own : PassesOwn (model X.prog X.w) X.A X.env X.xe
  calm : X.calm = true
  nd : X.N.Nodup
  hu : X.A.units + 64 < cLine
abbrev W0 : WX := fun _ _ _ _ => False
theorem Ctx.blk {X : Cx} {W : WX} (c : Ctx X W) (s : Shared) (H : Hp) (scope : Scope) (env : Env) (fp : List Addr) : Ctx (X.blk s H scope env fp) W0 :=
  ⟨takes0, PassesOwn.never, c.calm, c.nd, c.hu⟩
section
variable {X : Cx} {W : WX} {pos : Pos}
/-- behind a call that changed the heap by new things alone -/
theorem Good.after {K : PySem.W.Frag} {F F' H H' : Hp} {ρ : Rho} {σ : St} (g : Good K F ρ σ H) (ff : Same F F') (fh : Same F' H') (hh : Same H H') (nw : NewF H F F') : Good K F' ρ σ H' ∧ Stp σ F ρ H F' ρ H' := by
  refine ⟨⟨fh, g.len, fun i p e => ?_, fun i xs e => ?_, g.apart⟩, ⟨ff, fun _ xs e => ⟨xs, e⟩, fun q o e _ => hh q o e, fun q o e f _ => nw q o e f, fun q e => hh.free e⟩⟩
  · obtain ⟨v, e1, e2⟩ := g.val i p e
    exact ⟨v, e1, Rep.mono ff _ _ e2⟩
  · obtain ⟨a, vs, e1, e2, e3, e4⟩ := g.own i xs e
    exact ⟨a, vs, e1, nw a _ e3 e2, hh _ _ e3, Reps.mono ff _ _ e4⟩
theorem Good.afterB {K : PySem.W.Frag} {F F' H H' : Hp} {ρ : Rho} {σ : St} {i : Nat} {b : Addr} {xs ys : List PV} {bs : List V} (g : Good K F ρ σ H) (hi : ρ[i]? = some (.own xs)) (hs : σ[i]? = some (some (.ref b))) (ff : Same F F') (fh : Same F' H') (fb : F' b = none) (hb : H' b = some (.lst bs)) (rb : Reps K F' ys bs) (hh : SameBut b H H') (nw : NewFB b H F F') :
    Good K F' (ρ.set i (.own ys)) σ H' ∧ Stp σ F ρ H F' (ρ.set i (.own ys)) H' := by
  have get : ∀ {m : Nat} {us' : List PV}, (ρ.set i (.own ys))[m]? = some (.own us') → ∃ us'', ρ[m]? = some (.own us'') := fun {m us'} e => by
    rcases get_set e with ⟨rfl, z⟩ | ⟨_, z⟩
    · exact ⟨xs, hi⟩
    · exact ⟨_, z⟩
  refine ⟨⟨fh, by rw [List.length_set]; exact g.len, fun j p e => ?_, fun j zs e => ?_, fun j k zs ws c f1 f2 f3 f4 => ?_⟩, ⟨ff, fun _ _ e => get e, fun q o e n => ?_, fun q o e f n => ?_, fun q e => ?_⟩⟩
  · rcases get_set e with ⟨rfl, z⟩ | ⟨_, z⟩
    · cases z
    · obtain ⟨v, e1, e2⟩ := g.val j p z
      exact ⟨v, e1, Rep.mono ff _ _ e2⟩
  · rcases get_set e with ⟨rfl, z⟩ | ⟨ne, z⟩
    · cases z
      exact ⟨b, bs, hs, fb, hb, rb⟩
    · obtain ⟨a, vs, e1, e2, e3, e4⟩ := g.own j zs z
      have nb : a ≠ b := fun q => ne (g.apart i j xs zs b hi z hs (by rw [e1, q]))
      exact ⟨a, vs, e1, nw a _ nb e3 e2, hh _ _ nb e3, Reps.mono ff _ _ e4⟩
  · obtain ⟨z1, q1⟩ := get f1
    obtain ⟨z2, q2⟩ := get f2
    exact g.apart j k z1 z2 c q1 q2 f3 f4
  · exact hh q o (fun z => n i xs hi (by rw [hs, z])) e
  · exact nw q o (fun z => n i xs hi (by rw [hs, z])) e f
  · cases h : H q with
    | none => rfl
    | some o =>
      by_cases z : q = b
      · rw [z, hb] at e; cases e
      · rw [hh q o z h] at e; cases e
def mCall (f : FP) (ms : List M) : M := fun ρ => (mArgs ms ρ).bnd fun ps ρ1 => match f ps with
  | .ok p => .ok (p, ρ1)
  | .exc x => .exc x ρ1
  | .bad => .bad
def mCallFr (f : FF) (ms : List M) : MF := fun ρ => (mArgs ms ρ).bnd fun ps ρ1 => match f ps with
  | .ok xs => .ok (xs, ρ1)
  | .exc x => .exc x ρ1
  | .bad => .bad
section
variable {k n : Nat} {fa : Addr} {fd : FuncData} {ps : List Str} {x : Str} {p : Pos} {e : Expr} {es : List Expr} {ms : List M}
theorem s_call {f : FP} (c : Ctx X W) (G : FnOk X.prog X.w X.K X.mg X.base (L2.CX X.prog X.w) k fa fd ps (spP X.K X.mg n f)) (hr : Room k X.A) (hg : Gl X x) (hm : X.mg x = some (.ref fa)) (hk : PySem.W.keepIn X.K (.ref fa) = true) (hb : Binds X.K fd ps [])
    (ha : SndA X W (e :: es) (mArgs ms)) (hn : ms.length = n := by rfl) (hdb : (x == ("__debug__" : Str)) = false := by decide) (he : starEach (e :: es) X.env = (false, eval e X.env) :: starEach es X.env := by rfl) (hpl : (backTo pos (starEach es X.env)).any (·.1) = false := by rfl) :
    SndE X W (.Call (.Name x p) (e :: es) [] pos) (mCall f ms) := fun F ρ σ H Q g hp => by
  refine we_of (pe_callSD (E := fun σ cls d H => W cls d σ H) G hr hg hm hk hb .nil (fun σ => passAt c.tk σ) pa_wa hdb he hpl) ?_
  refine ha.thenL g hp fun F1 ρ1 H1 qs vs st g1 rp len hp1 => ?_
  refine ⟨by rw [List.append_nil, ← rp.length, len]; exact hn, F1, qs, g1.sub, by rw [List.append_nil]; exact rp, ?_⟩
  cases hf : f qs with
  | ok z =>
    rw [hf] at hp1
    intro F' H' v a b c' d r
    obtain ⟨g', st'⟩ := g1.after a b c' d
    exact hp1 F' H' v st' g' r
  | exc y =>
    rw [hf] at hp1
    intro F' H' cls d a b c' n' r
    obtain ⟨g', st'⟩ := g1.after a b c' n'
    exact hp1 F' H' cls d st' g' r
  | bad => rw [hf] at hp1; exact hp1
theorem f_call {f : FF} (c : Ctx X W) (G : FnOk X.prog X.w X.K X.mg X.base (L2.CX X.prog X.w) k fa fd ps (spF X.K X.mg n f)) (hr : Room k X.A) (hg : Gl X x) (hm : X.mg x = some (.ref fa)) (hk : PySem.W.keepIn X.K (.ref fa) = true) (hb : Binds X.K fd ps [])
    (ha : SndA X W (e :: es) (mArgs ms)) (hn : ms.length = n := by rfl) (hdb : (x == ("__debug__" : Str)) = false := by decide) (he : starEach (e :: es) X.env = (false, eval e X.env) :: starEach es X.env := by rfl) (hpl : (backTo pos (starEach es X.env)).any (·.1) = false := by rfl) :
    SndF X W (.Call (.Name x p) (e :: es) [] pos) (mCallFr f ms) := fun F ρ σ H Q g hp => by
  refine we_of (pe_callSD (E := fun σ cls d H => W cls d σ H) G hr hg hm hk hb .nil (fun σ => passAt c.tk σ) pa_wa hdb he hpl) ?_
  refine ha.thenL g hp fun F1 ρ1 H1 qs vs st g1 rp len hp1 => ?_
  refine ⟨by rw [List.append_nil, ← rp.length, len]; exact hn, F1, qs, g1.sub, by rw [List.append_nil]; exact rp, ?_⟩
  cases hf : f qs with
  | ok z =>
    rw [hf] at hp1
    intro F' H' a' ws a b c' d na fa' ha' r
    obtain ⟨g', st'⟩ := g1.after a b c' d
    refine hp1 F' H' _ st' g' ⟨a', ws, rfl, na, fa', fun i xs e z => ?_, ha', r⟩
    obtain ⟨a2, vs2, e1, e2, e3, e4⟩ := g1.own i xs e
    rw [e1] at z
    cases z
    rw [na] at e3
    cases e3
  | exc y =>
    rw [hf] at hp1
    intro F' H' cls d a b c' n' r
    obtain ⟨g', st'⟩ := g1.after a b c' n'
    exact hp1 F' H' cls d st' g' r
  | bad => rw [hf] at hp1; exact hp1
def mCallBx (f : FB) (i : Nat) (ms : List M) : M := fun ρ => match ρ[i]? with
  | some (.own _) => (mArgs ms ρ).bnd fun ps ρ1 => match ρ1[i]? with
    | some (.own xs) => match f xs ps with
      | .ok p ys => .ok (p, ρ1.set i (.own ys))
      | .exc x ys => .exc x (ρ1.set i (.own ys))
      | .bad => .bad
    | _ => .bad
  | _ => .bad
theorem s_callBx {f : FB} {y : Str} {p0 : Pos} (i : Nat) (c : Ctx X W) (G : FnOk X.prog X.w X.K X.mg X.base (L2.CX X.prog X.w) k fa fd ps (spB X.K X.mg n f)) (hr : Room k X.A) (hg : Gl X x) (hm : X.mg x = some (.ref fa)) (hk : PySem.W.keepIn X.K (.ref fa) = true) (hb : Binds X.K fd ps [])
    (h : PE X (.Name y p0) (tVar i)) (ha : SndA X W es (mArgs ms)) (hn : ms.length = n := by rfl) (hdb : (x == ("__debug__" : Str)) = false := by decide) (he : starEach (.Name y p0 :: es) X.env = (false, eval (.Name y p0) X.env) :: starEach es X.env := by rfl) (hpl : (backTo pos (starEach es X.env)).any (·.1) = false := by rfl) :
    SndE X W (.Call (.Name x p) (.Name y p0 :: es) [] pos) (mCallBx f i ms) := fun F ρ σ H Q g hp => by
  refine we_of (pe_callSD (E := fun σ cls d H => W cls d σ H) G hr hg hm hk hb .nil (fun σ => passAt c.tk σ) (pa_cons h pa_wa he) hdb he hpl) ?_
  unfold mCallBx at hp
  split at hp
  · rename_i xs0 e0
    obtain ⟨b, _, eb, _⟩ := g.own i xs0 e0
    refine ⟨.ref b, eb, ?_⟩
    refine ha.thenL g hp fun F1 ρ1 H1 qs vs st g1 rp len hp1 => ?_
    split at hp1
    · rename_i xs e1
      obtain ⟨b', bs, eb', fb, hbs, rbs⟩ := g1.own i xs e1
      rw [eb] at eb'
      cases eb'
      refine ⟨by rw [List.append_nil, List.length_cons, ← rp.length, len, hn], F1, b, bs, xs, qs, vs, by rw [List.append_nil], g1.sub, fb, hbs, rbs, rp, ?_⟩
      cases hf : f xs qs with
      | ok z ys =>
        rw [hf] at hp1
        intro F' H' v bs' a1 a2 a3 a4 a5 a6 a7 r
        obtain ⟨g', st'⟩ := g1.afterB e1 eb a1 a2 a3 a4 a5 a6 a7
        exact hp1 F' H' v st' g' r
      | exc y ys =>
        rw [hf] at hp1
        intro F' H' cls d bs' a1 a2 a3 a4 a5 a6 a7 r
        obtain ⟨g', st'⟩ := g1.afterB e1 eb a1 a2 a3 a4 a5 a6 a7
        exact hp1 F' H' cls d st' g' r
      | bad => rw [hf] at hp1; exact hp1
    · exact hp1.elim
  · exact hp.elim
end
end
end Ev

set_option Elab.async false
set_option linter.all false
set_option maxRecDepth 100000
namespace Ev
open PySem L2
/-! ### statements -/
inductive SR where
  | nx (ρ : Rho) | rt (p : PV) (ρ : Rho) | rf (xs : List PV) (ρ : Rho) | bk (ρ : Rho) | ct (ρ : Rho) | exc (x : Exc) (ρ : Rho) | bad
abbrev MS := Rho → SR
def Res.sr {α : Type} (r : Res (α × Rho)) (f : α → Rho → SR) : SR := match r with
  | .ok (a, ρ) => f a ρ | .exc x ρ => .exc x ρ | .bad => .bad
@[simp] theorem Res.sr_ok {α : Type} (a : α) (ρ : Rho) (f : α → Rho → SR) : (Res.ok (a, ρ)).sr f = f a ρ := rfl
@[simp] theorem Res.sr_exc {α : Type} (x : Exc) (ρ : Rho) (f : α → Rho → SR) : (Res.exc x ρ : Res (α × Rho)).sr f = .exc x ρ := rfl
@[simp] theorem Res.sr_bad {α : Type} (f : α → Rho → SR) : (Res.bad : Res (α × Rho)).sr f = .bad := rfl
/-- against a def's entry: H0 the heap, F0 what was known for good then, b the list handed in to be changed -/
structure Fr0 (H0 F0 : Hp) (b : Option Addr) (ρ : Rho) (σ : St) (F H : Hp) : Prop where
  ff : Same F0 F
  keep : ∀ q o, b ≠ some q → H0 q = some o → H q = some o
  nf : ∀ q o, b ≠ some q → H0 q = some o → F0 q = none → F q = none
  fresh : ∀ (i : Nat) xs a, ρ[i]? = some (.own xs) → σ[i]? = some (some (.ref a)) → H0 a = none ∨ b = some a
  io : ∀ a, b = some a → σ[0]? = some (some (.ref a))
  ex : ∀ q, H q = none → H0 q = none
section
variable {K : PySem.W.Frag} {H0 F0 F F' H H' : Hp} {b : Option Addr} {ρ ρ' : Rho} {σ σ' : St}
theorem Fr0.step (f : Fr0 H0 F0 b ρ σ F H) (s : Stp σ F ρ H F' ρ' H') : Fr0 H0 F0 b ρ' σ F' H' := by
  have no : ∀ q o, b ≠ some q → H0 q = some o → NotOwn ρ σ q := fun q o hb h i xs e z => by
    rcases f.fresh i xs q e z with w | w
    · rw [h] at w; cases w
    · exact hb w
  refine ⟨f.ff.trans s.ff, fun q o hb h => s.kp q o (f.keep q o hb h) (no q o hb h), fun q o hb h n => s.nf q o (f.keep q o hb h) (f.nf q o hb h n) (no q o hb h), fun i xs a e z => ?_, f.io, fun q h => f.ex q (s.ex q h)⟩
  obtain ⟨ys, e'⟩ := s.os i xs e
  exact f.fresh i ys a e' z
theorem Fr0.rebase (f : Fr0 H0 F0 b ρ σ F H) : Fr0 H0 F b ρ σ F H := ⟨Same.refl _, f.keep, fun _ _ _ _ n => n, f.fresh, f.io, f.ex⟩
theorem Fr0.trans (f : Fr0 H0 F0 b ρ σ F H) (g : Fr0 H0 F b ρ' σ' F' H') : Fr0 H0 F0 b ρ' σ' F' H' := ⟨f.ff.trans g.ff, g.keep, fun q o hb h n => g.nf q o hb h (f.nf q o hb h n), g.fresh, g.io, g.ex⟩
theorem set_get {α : Type} {l : List α} {i j : Nat} {x : α} : (l.set i x)[j]? = if i = j then (if i < l.length then some x else none) else l[j]? := by
  rw [List.getElem?_set]
theorem Good.setVal {i : Nat} {p : PV} {v : V} (g : Good K F ρ σ H) (r : Rep K F p v) : Good K F (ρ.set i (.val p)) (σ.set i (some v)) H := by
  refine ⟨g.sub, by simpa using g.len, fun j q e => ?_, fun j xs e => ?_, fun j k xs ys a e1 e2 e3 e4 => ?_⟩
  · rcases get_set e with ⟨rfl, z⟩ | ⟨ne, z⟩
    · cases z
      have hi : i < ρ.length := by
        by_cases h : i < ρ.length
        · exact h
        · rw [set_get, if_pos rfl, if_neg h] at e; cases e
      refine ⟨v, ?_, r⟩
      rw [set_get, if_pos rfl, if_pos (by rw [← g.len]; exact hi)]
    · obtain ⟨w, e1, e2⟩ := g.val j q z
      exact ⟨w, by rw [List.getElem?_set_ne ne]; exact e1, e2⟩
  · rcases get_set e with ⟨rfl, z⟩ | ⟨ne, z⟩
    · cases z
    · obtain ⟨a, vs, e1, e2⟩ := g.own j xs z
      exact ⟨a, vs, by rw [List.getElem?_set_ne ne]; exact e1, e2⟩
  · rcases get_set e1 with ⟨rfl, z⟩ | ⟨n1, z1⟩
    · cases z
    · rcases get_set e2 with ⟨rfl, z⟩ | ⟨n2, z2⟩
      · cases z
      · rw [List.getElem?_set_ne n1] at e3
        rw [List.getElem?_set_ne n2] at e4
        exact g.apart j k xs ys a z1 z2 e3 e4
theorem Fr0.setVal {i : Nat} {p : PV} {v : V} (f : Fr0 H0 F0 b ρ σ F H) (hb : b = none ∨ i ≠ 0) : Fr0 H0 F0 b (ρ.set i (.val p)) (σ.set i (some v)) F H := by
  refine ⟨f.ff, f.keep, f.nf, fun j xs a e z => ?_, fun a e => ?_, f.ex⟩
  · rcases get_set e with ⟨rfl, w⟩ | ⟨ne, w⟩
    · cases w
    · rw [List.getElem?_set_ne ne] at z
      exact f.fresh j xs a w z
  · rcases hb with h | h
    · rw [h] at e; cases e
    · rw [List.getElem?_set_ne h]; exact f.io a e
theorem Good.setOwn {i : Nat} {xs : List PV} {a : Addr} {vs : List V} (g : Good K F ρ σ H) (fa : F a = none) (no : NotOwn ρ σ a) (ha : H a = some (.lst vs)) (r : Reps K F xs vs) : Good K F (ρ.set i (.own xs)) (σ.set i (some (.ref a))) H := by
  have hi : ∀ {s : Slot}, (ρ.set i (.own xs))[i]? = some s → i < ρ.length ∧ i < σ.length := fun {s} e => by
    by_cases h : i < ρ.length
    · exact ⟨h, by rw [← g.len]; exact h⟩
    · rw [set_get, if_pos rfl, if_neg h] at e; cases e
  refine ⟨g.sub, by simpa using g.len, fun j q e => ?_, fun j ys e => ?_, fun j k ys zs c e1 e2 e3 e4 => ?_⟩
  · rcases get_set e with ⟨rfl, z⟩ | ⟨ne, z⟩
    · cases z
    · obtain ⟨w, e1, e2⟩ := g.val j q z
      exact ⟨w, by rw [List.getElem?_set_ne ne]; exact e1, e2⟩
  · rcases get_set e with ⟨rfl, z⟩ | ⟨ne, z⟩
    · cases z
      exact ⟨a, vs, by rw [set_get, if_pos rfl, if_pos (hi e).2], fa, ha, r⟩
    · obtain ⟨c, ws, e1, e2⟩ := g.own j ys z
      exact ⟨c, ws, by rw [List.getElem?_set_ne ne]; exact e1, e2⟩
  · rcases get_set e1 with ⟨rfl, z1⟩ | ⟨n1, z1⟩
    · rcases get_set e2 with ⟨rfl, z2⟩ | ⟨n2, z2⟩
      · rfl
      · rw [List.getElem?_set_ne n2] at e4
        rw [set_get, if_pos rfl, if_pos (hi e1).2] at e3
        cases e3
        exact absurd e4 (no k zs z2)
    · rcases get_set e2 with ⟨rfl, z2⟩ | ⟨n2, z2⟩
      · rw [List.getElem?_set_ne n1] at e3
        rw [set_get, if_pos rfl, if_pos (hi e2).2] at e4
        cases e4
        exact absurd e3 (no j ys z1)
      · rw [List.getElem?_set_ne n1] at e3
        rw [List.getElem?_set_ne n2] at e4
        exact g.apart j k ys zs c z1 z2 e3 e4
theorem Fr0.setOwn {i : Nat} {xs : List PV} {a : Addr} (f : Fr0 H0 F0 b ρ σ F H) (hb : b = none ∨ i ≠ 0) (ha : H0 a = none) : Fr0 H0 F0 b (ρ.set i (.own xs)) (σ.set i (some (.ref a))) F H := by
  refine ⟨f.ff, f.keep, f.nf, fun j ys c e z => ?_, fun c e => ?_, f.ex⟩
  · rcases get_set e with ⟨rfl, w⟩ | ⟨ne, w⟩
    · rw [set_get, if_pos rfl] at z
      split at z
      · cases z; exact .inl ha
      · cases z
    · rw [List.getElem?_set_ne ne] at z
      exact f.fresh j ys c w z
  · rcases hb with h | h
    · rw [h] at e; cases e
    · rw [List.getElem?_set_ne h]; exact f.io c e
end
/-- what is wanted behind a statement's mirror -/
def PostS (X : Cx) (W : WX) (b : Option Addr) (H0 F0 : Hp) (r : SR) (D : Ends) : Prop := match r with
  | .nx ρ' => ∀ F' σ' H', Fr0 H0 F0 b ρ' σ' F' H' → Good X.K F' ρ' σ' H' → D.nx σ' H'
  | .rt p ρ' => ∀ F' σ' H' v, Fr0 H0 F0 b ρ' σ' F' H' → Good X.K F' ρ' σ' H' → Rep X.K F' p v → D.rt v H'
  | .rf xs ρ' => ∀ F' σ' H' v, Fr0 H0 F0 b ρ' σ' F' H' → Good X.K F' ρ' σ' H' → repF X.K σ' H0 F' ρ' H' xs v → D.rt v H'
  | .bk ρ' => ∀ F' σ' H', Fr0 H0 F0 b ρ' σ' F' H' → Good X.K F' ρ' σ' H' → D.bk σ' H'
  | .ct ρ' => ∀ F' σ' H', Fr0 H0 F0 b ρ' σ' F' H' → Good X.K F' ρ' σ' H' → D.ct σ' H'
  | .exc x ρ' => ∀ F' σ' H' cls d, Fr0 H0 F0 b ρ' σ' F' H' → Good X.K F' ρ' σ' H' → ExcAt X.K X.mg F' x cls d → W cls d σ' H'
  | .bad => False
@[irreducible] def WS (X : Cx) (st : Stmt) : TS := fun D σ H => ∀ (pins : List (Addr × Obj)) (s : Shared), Inv X pins σ H s → wpAny (model X.prog X.w) X.A (exec st X.env) (SP X pins D) X.xe s
@[irreducible] def WSs (X : Cx) (st : List Stmt) : TS := fun D σ H => ∀ (pins : List (Addr × Obj)) (s : Shared), Inv X pins σ H s → wpAny (model X.prog X.w) X.A (execs st X.env) (SP X pins D) X.xe s
def SndS (X : Cx) (W : WX) (b : Option Addr) (st : Stmt) (m : MS) : Prop :=
  ∀ (H0 F0 F : Hp) (ρ : Rho) (σ : St) (H : Hp) (D : Ends), Fr0 H0 F0 b ρ σ F H → Good X.K F ρ σ H → PostS X W b H0 F0 (m ρ) D → WS X st D σ H
def SndSs (X : Cx) (W : WX) (b : Option Addr) (st : List Stmt) (m : MS) : Prop :=
  ∀ (H0 F0 F : Hp) (ρ : Rho) (σ : St) (H : Hp) (D : Ends), Fr0 H0 F0 b ρ σ F H → Good X.K F ρ σ H → PostS X W b H0 F0 (m ρ) D → WSs X st D σ H
section
variable {X : Cx} {W : WX} {b : Option Addr} {pos : Pos} {st : Stmt} {sts : List Stmt}
theorem ps_ws : PS X st (WS X st) := ⟨fun pins s _ _ _ I h => by unfold WS at h; exact h pins s I⟩
theorem pss_wss : PSs X sts (WSs X sts) := ⟨fun pins s _ _ _ I h => by unfold WSs at h; exact h pins s I⟩
theorem ws_of {t : TS} {σ : St} {H : Hp} {D : Ends} (p : PS X st t) (h : t D σ H) : WS X st D σ H := by unfold WS; exact fun pins s I => p.run pins s σ H D I h
theorem wss_of {t : TS} {σ : St} {H : Hp} {D : Ends} (p : PSs X sts t) (h : t D σ H) : WSs X sts D σ H := by unfold WSs; exact fun pins s I => p.run pins s σ H D I h
/-- from an expression's mirror on -/
theorem Post.sr {α β : Type} {rep : RepT α β} {H0 F0 F : Hp} {ρ : Rho} {σ : St} {H : Hp} {r : Res (α × Rho)} {f : α → Rho → SR} {D : Ends} {R : β → Hp → Prop} (fr : Fr0 H0 F0 b ρ σ F H) (hp : PostS X W b H0 F0 (r.sr f) D)
    (k : ∀ F1 ρ1 H1 p v, Stp σ F ρ H F1 ρ1 H1 → Fr0 H0 F0 b ρ1 σ F1 H1 → Good X.K F1 ρ1 σ H1 → rep H F1 ρ1 H1 p v → PostS X W b H0 F0 (f p ρ1) D → R v H1) : Post rep X W F ρ σ H r R := by
  match r, hp with
  | .ok (p, ρ1), hp => exact fun F1 H1 v s g rp => k F1 ρ1 H1 p v s (fr.step s) g rp hp
  | .exc x ρ1, hp => exact fun F1 H1 cls d s g e => hp F1 σ H1 cls d (fr.step s) g e
/-! blocks -/
def mSeq (a c : MS) : MS := fun ρ => match a ρ with
  | .nx ρ1 => c ρ1
  | r => r
def mNil : MS := fun ρ => .nx ρ
theorem ss_nil : SndSs X W b [] mNil := fun H0 F0 F ρ σ H D f g hp => wss_of pss_nil (show D.nx σ H from hp F σ H f g)
theorem ss_cons {a c : MS} (h1 : SndS X W b st a) (h2 : SndSs X W b sts c) : SndSs X W b (st :: sts) (mSeq a c) := fun H0 F0 F ρ σ H D f g hp => by
  refine wss_of (pss_cons ps_ws pss_wss) ?_
  refine h1 H0 F0 F ρ σ H _ f g ?_
  unfold mSeq at hp
  cases e : a ρ with
  | nx ρ1 =>
    rw [e] at hp
    exact fun F' σ' H' f' g' => h2 H0 F0 F' ρ1 σ' H' D f' g' hp
  | rt p ρ1 => rw [e] at hp; exact hp
  | rf p ρ1 => rw [e] at hp; exact hp
  | bk ρ1 => rw [e] at hp; exact hp
  | ct ρ1 => rw [e] at hp; exact hp
  | exc x ρ1 => rw [e] at hp; exact hp
  | bad => rw [e] at hp; exact hp
theorem ss_one {a : MS} (h1 : SndS X W b st a) : SndSs X W b [st] a := fun H0 F0 F ρ σ H D f g hp => wss_of (pss_one ps_ws) (h1 H0 F0 F ρ σ H D f g hp)
def mPass : MS := fun ρ => .nx ρ
theorem st_pass : SndS X W b (.Pass pos) mPass := fun H0 F0 F ρ σ H D f g hp => ws_of ps_pass (show D.nx σ H from hp F σ H f g)
theorem st_break : SndS X W b (.Break pos) (fun ρ => .bk ρ) := fun H0 F0 F ρ σ H D f g hp => ws_of ps_break (show D.bk σ H from hp F σ H f g)
theorem st_continue : SndS X W b (.Continue pos) (fun ρ => .ct ρ) := fun H0 F0 F ρ σ H D f g hp => ws_of ps_continue (show D.ct σ H from hp F σ H f g)
/-! return -/
def mRet (m : M) : MS := fun ρ => (m ρ).sr fun p ρ1 => .rt p ρ1
theorem st_ret {e : Expr} {m : M} (h : SndE X W e m) : SndS X W b (.Return (some e) pos) (mRet m) := fun H0 F0 F ρ σ H D f g hp => by
  refine ws_of (ps_ret pe_we) ?_
  exact h F ρ σ H _ g (Post.sr f hp fun F1 ρ1 H1 p v _ f1 g1 r hp1 => hp1 F1 σ H1 v f1 g1 r)
def mRetF (m : MF) : MS := fun ρ => (m ρ).sr fun p ρ1 => .rf p ρ1
theorem st_retF {e : Expr} {m : MF} (h : SndF X W e m) : SndS X W b (.Return (some e) pos) (mRetF m) := fun H0 F0 F ρ σ H D f g hp => by
  refine ws_of (ps_ret pe_we) ?_
  exact h F ρ σ H _ g (Post.sr f hp fun F1 ρ1 H1 p v _ f1 g1 r hp1 => hp1 F1 σ H1 v f1 g1 (RepM.mono _ _ _ _ _ _ _ f.ex r))
/-- return of an own name -/
def mRetN (i : Nat) : MS := fun ρ => match ρ[i]? with
  | some (.own xs) => .rf xs (ρ.set i .emp)
  | _ => .bad
theorem Good.setEmp {K : PySem.W.Frag} {F H : Hp} {ρ : Rho} {σ : St} (g : Good K F ρ σ H) (i : Nat) : Good K F (ρ.set i .emp) σ H := by
  refine ⟨g.sub, by simpa using g.len, fun j q e => ?_, fun j xs e => ?_, fun j k xs ys a e1 e2 e3 e4 => ?_⟩
  · rcases get_set e with ⟨rfl, z⟩ | ⟨ne, z⟩
    · cases z
    · exact g.val j q z
  · rcases get_set e with ⟨rfl, z⟩ | ⟨ne, z⟩
    · cases z
    · exact g.own j xs z
  · rcases get_set e1 with ⟨rfl, z⟩ | ⟨n1, z1⟩
    · cases z
    · rcases get_set e2 with ⟨rfl, z⟩ | ⟨n2, z2⟩
      · cases z
      · exact g.apart j k xs ys a z1 z2 e3 e4
theorem Fr0.setEmp {H0 F0 F H : Hp} {ρ : Rho} {σ : St} (f : Fr0 H0 F0 b ρ σ F H) (i : Nat) : Fr0 H0 F0 b (ρ.set i .emp) σ F H :=
  ⟨f.ff, f.keep, f.nf, fun j xs a e z => by
    rcases get_set e with ⟨rfl, w⟩ | ⟨ne, w⟩
    · cases w
    · exact f.fresh j xs a w z, f.io, f.ex⟩
theorem st_retN {x : Str} {p0 : Pos} (i : Nat) (h : PE X (.Name x p0) (tVar i)) (hb : b = none := by rfl) : SndS X W b (.Return (some (.Name x p0)) pos) (mRetN i) := fun H0 F0 F ρ σ H D f g hp => by
  refine ws_of (ps_ret h) ?_
  unfold mRetN at hp
  split at hp
  · rename_i xs e
    obtain ⟨a, vs, e1, e2, e3, e4⟩ := g.own i xs e
    have hi : i < ρ.length := by
      by_cases z : i < ρ.length
      · exact z
      · rw [List.getElem?_eq_none (by omega)] at e; cases e
    refine ⟨.ref a, e1, hp F σ H _ (f.setEmp i) (g.setEmp i) ⟨a, vs, rfl, ?_, e2, fun j ys ej z => ?_, e3, e4⟩⟩
    · rcases f.fresh i xs a e e1 with w | w
      · exact w
      · rw [hb] at w; cases w
    · rcases get_set ej with ⟨rfl, w⟩ | ⟨ne, w⟩
      · cases w
      · exact ne (g.apart i j xs ys a e w e1 z)
  · exact hp.elim
/-! name = e -/
def mSet (i : Nat) (m : M) : MS := fun ρ => (m ρ).sr fun p ρ1 => .nx (ρ1.set i (.val p))
def mSetF (i : Nat) (m : MF) : MS := fun ρ => (m ρ).sr fun xs ρ1 => .nx (ρ1.set i (.own xs))
section
variable {i : Nat} {x : Str} {e : Expr} {pos' : Pos}
theorem st_set {m : M} (c : Ctx X W) (hi : X.N[i]? = some x) (hx : Loc X.env.scope x) (he : SndE X W e m) (hb : b = none ∨ i ≠ 0) (hs : swapsWith e (some (.Name x pos')) pos.line X.env = pure false := by rfl) (hf : X.fn x = true ∨ X.env.scope.names.lookup x = some .local := by first | exact .inl rfl | exact .inr rfl | assumption) :
    SndS X W b (.Assign [.Name x pos'] e pos) (mSet i m) := fun H0 F0 F ρ σ H D f g hp => by
  refine ws_of (ps_set c.nd hi hx pe_we hs hf) ?_
  exact he F ρ σ H _ g (Post.sr f hp fun F1 ρ1 H1 p v _ f1 g1 r hp1 => hp1 F1 _ H1 (f1.setVal hb) (g1.setVal r))
theorem st_setF {m : MF} (c : Ctx X W) (hi : X.N[i]? = some x) (hx : Loc X.env.scope x) (he : SndF X W e m) (hb : b = none ∨ i ≠ 0) (hs : swapsWith e (some (.Name x pos')) pos.line X.env = pure false := by rfl) (hf : X.fn x = true ∨ X.env.scope.names.lookup x = some .local := by first | exact .inl rfl | exact .inr rfl | assumption) :
    SndS X W b (.Assign [.Name x pos'] e pos) (mSetF i m) := fun H0 F0 F ρ σ H D f g hp => by
  refine ws_of (ps_set c.nd hi hx pe_we hs hf) ?_
  refine he F ρ σ H _ g (Post.sr f hp fun F1 ρ1 H1 p v _ f1 g1 r hp1 => ?_)
  obtain ⟨a, vs, rfl, hn, fa, no, ha, rv⟩ := r
  exact hp1 F1 _ H1 (f1.setOwn hb (f.ex a hn)) (g1.setOwn fa no ha rv)
end
/-! targets -/
abbrev MG := PV → Rho → Option Rho
@[irreducible] def WG (X : Cx) (tg : Expr) : TG := fun v σ H Q => ∀ (pins : List (Addr × Obj)) (s : Shared) (u : Value), Inv X pins σ H s → RelV v u → wpAny (model X.prog X.w) X.A (assign tg X.env u) (fun _ s' => ∃ σ' H', Inv X pins σ' H' s' ∧ Q σ' H') X.xe s
theorem pg_wg {tg : Expr} : PG X tg (WG X tg) := ⟨fun pins s _ _ _ u _ I r h => by unfold WG at h; exact h pins s u I r⟩
theorem wg_of {tg : Expr} {t : TG} {v : V} {σ : St} {H : Hp} {Q : St → Hp → Prop} (p : PG X tg t) (h : t v σ H Q) : WG X tg v σ H Q := by unfold WG; exact fun pins s u I r => p.run pins s σ H v u Q I r h
def SndG (X : Cx) (b : Option Addr) (ws : List Nat) (tg : Expr) (m : MG) : Prop :=
  ∀ (H0 F0 F : Hp) (ρ : Rho) (σ : St) (H : Hp) (p : PV) (v : V) (ρ' : Rho) (Q : St → Hp → Prop), Fr0 H0 F0 b ρ σ F H → Good X.K F ρ σ H → Rep X.K F p v → m p ρ = some ρ' → (∀ σ', wipe σ' ws = wipe σ ws → (∀ (i : Nat) xs, ρ'[i]? = some (.own xs) → ρ[i]? = some (.own xs)) → Fr0 H0 F0 b ρ' σ' F H → Good X.K F ρ' σ' H → Q σ' H) → WG X tg v σ H Q
theorem wipe_set {σ : St} {i : Nat} {o : Option V} : ∀ {ws : List Nat}, i ∈ ws → wipe (σ.set i o) ws = wipe σ ws
  | [], h => by cases h
  | w :: ws, h => by
    unfold wipe
    rcases List.mem_cons.mp h with rfl | h
    · by_cases hw : i ∈ ws
      · rw [wipe_set hw]
      · have : ∀ (τ : St) (us : List Nat), i ∉ us → wipe (τ.set i o) us = (wipe τ us).set i o := by
          intro τ us
          induction us with
          | nil => intro _; rfl
          | cons u us ih =>
            intro hn
            unfold wipe
            rw [ih (fun z => hn (List.mem_cons_of_mem _ z)), List.set_comm _ _ (fun e => hn (by rw [e]; exact List.mem_cons_self))]
        rw [this σ ws hw, List.set_set]
    · rw [wipe_set h]
def mgName (i : Nat) : MG := fun p ρ => some (ρ.set i (.val p))
theorem g_name {i : Nat} {x : Str} {ws : List Nat} (c : Ctx X W) (hi : X.N[i]? = some x) (hx : Loc X.env.scope x) (hb : b = none ∨ i ≠ 0) (hw : i ∈ ws) (hf : X.fn x = true ∨ X.env.scope.names.lookup x = some .local := by first | exact .inl rfl | exact .inr rfl | assumption) : SndG X b ws (.Name x pos) (mgName i) := fun H0 F0 F ρ σ H p v ρ' Q f g r e k => by
  cases e
  exact wg_of (pg_name c.nd hi hx hf) (k _ (wipe_set hw) (fun j xs e => by
    rcases get_set e with ⟨rfl, z⟩ | ⟨_, z⟩
    · cases z
    · exact z) (f.setVal hb) (g.setVal r))
abbrev MGs := List PV → Rho → Option Rho
@[irreducible] def WGs (X : Cx) (ts : List Expr) : TGs := fun vs σ H Q => ∀ (pins : List (Addr × Obj)) (s : Shared) (us : List Value), Inv X pins σ H s → Vals vs us → wpAny (model X.prog X.w) X.A (assignInOrder ((assignEach ts X.env).map (·.2)) us) (fun _ s' => ∃ σ' H', Inv X pins σ' H' s' ∧ Q σ' H') X.xe s
theorem pgs_wgs {ts : List Expr} : PGs X ts (WGs X ts) := ⟨fun pins s _ _ _ us _ I r h => by unfold WGs at h; exact h pins s us I r⟩
theorem wgs_of {ts : List Expr} {t : TGs} {vs : List V} {σ : St} {H : Hp} {Q : St → Hp → Prop} (p : PGs X ts t) (h : t vs σ H Q) : WGs X ts vs σ H Q := by unfold WGs; exact fun pins s us I r => p.run pins s σ H vs us Q I r h
def SndGs (X : Cx) (b : Option Addr) (ws : List Nat) (ts : List Expr) (m : MGs) : Prop :=
  ∀ (H0 F0 F : Hp) (ρ : Rho) (σ : St) (H : Hp) (ps : List PV) (vs : List V) (ρ' : Rho) (Q : St → Hp → Prop), Fr0 H0 F0 b ρ σ F H → Good X.K F ρ σ H → Reps X.K F ps vs → m ps ρ = some ρ' → (∀ σ', wipe σ' ws = wipe σ ws → (∀ (i : Nat) xs, ρ'[i]? = some (.own xs) → ρ[i]? = some (.own xs)) → Fr0 H0 F0 b ρ' σ' F H → Good X.K F ρ' σ' H → Q σ' H) → WGs X ts vs σ H Q
def mgNil : MGs := fun ps ρ => match ps with
  | [] => some ρ
  | _ => none
def mgCons (g : MG) (gs : MGs) : MGs := fun ps ρ => match ps with
  | [] => none
  | p :: ps => (g p ρ).bind fun ρ1 => gs ps ρ1
theorem gs_nil {ws : List Nat} : SndGs X b ws [] mgNil := fun H0 F0 F ρ σ H ps vs ρ' Q f g r e k => by
  unfold mgNil at e
  split at e
  · cases e
    rw [r.inv0]
    exact wgs_of pgs_nil ⟨rfl, k _ rfl (fun _ _ e => e) f g⟩
  · cases e
theorem gs_cons {ws : List Nat} {t : Expr} {ts : List Expr} {m : MG} {ms : MGs} (h1 : SndG X b ws t m) (h2 : SndGs X b ws ts ms) (hs : (assignEach (t :: ts) X.env).map (·.2) = assign t X.env :: (assignEach ts X.env).map (·.2) := by rfl) : SndGs X b ws (t :: ts) (mgCons m ms) := fun H0 F0 F ρ σ H ps vs ρ' Q f g r e k => by
  unfold mgCons at e
  split at e
  · cases e
  · rename_i p ps
    obtain ⟨v, us, rfl, r1, r2⟩ := r.inv
    cases e1 : m p ρ with
    | none => rw [e1] at e; cases e
    | some ρ1 =>
      rw [e1] at e
      refine wgs_of (pgs_cons pg_wg pgs_wgs hs) ⟨v, us, rfl, ?_⟩
      exact h1 H0 F0 F ρ σ H p v ρ1 _ f g r1 e1 fun σ1 w1 o1 f1 g1 => h2 H0 F0 F ρ1 σ1 H ps us ρ' Q f1 g1 r2 e fun σ' w' o' => k σ' (w'.trans w1) fun i xs z => o1 i xs (o' i xs z)
def mgTup (gs : MGs) : MG := fun p ρ => match p with
  | .tup ps => gs ps ρ
  | _ => none
/-- as many as there are targets -/
def LenGs (m : MGs) (n : Nat) : Prop := ∀ ps ρ ρ', m ps ρ = some ρ' → ps.length = n
theorem len_nil : LenGs mgNil 0 := fun ps ρ ρ' h => by
  unfold mgNil at h
  split at h
  · rfl
  · cases h
theorem len_cons {g : MG} {gs : MGs} {n : Nat} (h : LenGs gs n) : LenGs (mgCons g gs) (n + 1) := fun ps ρ ρ' e => by
  unfold mgCons at e
  split at e
  · cases e
  · rename_i p ps
    cases e1 : g p ρ with
    | none => rw [e1] at e; cases e
    | some ρ1 => rw [e1] at e; rw [List.length_cons, h ps ρ1 ρ' e]
theorem g_tup {ws : List Nat} {es : List Expr} {k n : Nat} {ms : MGs} (c : Ctx X W) (h : SndGs X b ws es ms) (hl : LenGs ms n) (hn : (assignEach es X.env).length = n := by rfl) (hst : (assignEach es X.env).findIdx? (·.1) = none := by rfl) : SndG X b ws (.Tuple es k pos) (mgTup ms) := fun H0 F0 F ρ σ H p v ρ' Q f g r e kk => by
  unfold mgTup at e
  split at e
  · rename_i ps
    unfold Rep at r
    obtain ⟨a, vs, rfl, h1, h2⟩ := r
    refine wg_of (pg_tup (n := n) c.calm pgs_wgs hn hst) ⟨a, vs, rfl, SqT.of (g.sub _ _ h1), by rw [← h2.length]; exact hl _ _ _ e, ?_⟩
    exact h H0 F0 F ρ σ H ps vs ρ' Q f g h2 e kk
  · cases e
/-- target = e -/
def mAsg (g : MG) (m : M) : MS := fun ρ => (m ρ).sr fun p ρ1 => match g p ρ1 with
  | some ρ2 => .nx ρ2
  | none => .bad
theorem st_asg {ws : List Nat} {tg e : Expr} {m : M} {g : MG} (he : SndE X W e m) (hg : SndG X b ws tg g) (hs : swapsWithSole [tg] e pos.line X.env = pure false := by rfl) (hw : swappedStores [tg] e X.env = pure none := by rfl)
    (h1 : (assignEach [tg] X.env).map (·.2) = [assign tg X.env] := by rfl) : SndS X W b (.Assign [tg] e pos) (mAsg g m) := fun H0 F0 F ρ σ H D f gd hp => by
  refine ws_of (ps_asg pe_we pg_wg hs hw h1) ?_
  refine he F ρ σ H _ gd (Post.sr f hp fun F1 ρ1 H1 p v _ f1 g1 r hp1 => ?_)
  cases e1 : g p ρ1 with
  | none => rw [e1] at hp1; exact hp1.elim
  | some ρ2 =>
    rw [e1] at hp1
    exact hg H0 F0 F1 ρ1 σ H1 p v ρ2 _ f1 g1 r e1 fun σ' _ _ f' g' => hp1 F1 σ' H1 f' g'
/-- a, b = x, y -/
def mPar (i j : Nat) (ms : List M) : MS := fun ρ => (mArgs ms ρ).sr fun ps ρ1 => match ps with
  | [p, q] => .nx ((ρ1.set i (.val p)).set j (.val q))
  | _ => .bad
theorem st_par {i j : Nat} {x y : Str} {a c' : Expr} {m m' : M} {px py pt : Pos} {kt k2 pt2} (c : Ctx X W) (hi : X.N[i]? = some x) (hj : X.N[j]? = some y) (hij : i ≠ j)
    (hx : X.env.scope.names.lookup x = some .local) (hy : X.env.scope.names.lookup y = some .local) (ha : SndA X W [a, c'] (mArgs [m, m'])) (hbi : b = none ∨ i ≠ 0) (hbj : b = none ∨ j ≠ 0)
    (hw : swappedStores [.Tuple [.Name x px, .Name y py] kt pt] (.Tuple [a, c'] k2 pt2) X.env = pure (some [x, y]))
    (hs : swapsWithSole [.Tuple [.Name x px, .Name y py] kt pt] (.Tuple [a, c'] k2 pt2) pos.line X.env = pure false := by rfl) :
    SndS X W b (.Assign [.Tuple [.Name x px, .Name y py] kt pt] (.Tuple [a, c'] k2 pt2) pos) (mPar i j [m, m']) := fun H0 F0 F ρ σ H D f g hp => by
  refine ws_of (ps_par c.calm c.nd hi hj hij hx hy pa_wa hw hs) ?_
  refine ha F ρ σ H _ g (Post.sr f hp fun F1 ρ1 H1 ps vs _ f1 g1 r hp1 => ?_)
  split at hp1
  · obtain ⟨v, w, rfl, r1, r2⟩ := Reps.two (show Reps _ _ _ _ from r)
    exact ⟨v, w, rfl, hp1 F1 _ H1 ((f1.setVal hbi).setVal hbj) ((g1.setVal r1).setVal r2)⟩
  · exact hp1.elim
/-! name op= e, of ints -/
def mAug (i : Nat) (op : PV → PV → Option PV) (m : M) : MS := fun ρ => match ρ[i]? with
  | some (.val q) => (m ρ).sr fun p ρ1 => match op q p with
    | some z => .nx (ρ1.set i (.val z))
    | none => .bad
  | _ => .bad
theorem st_aug {i : Nat} {x : Str} {e : Expr} {m : M} {o : Operator} {op : PV → PV → Option PV} {h : Int → Int → Int} {pos' : Pos} (c : Ctx X W) (hi : X.N[i]? = some x) (hx : Loc X.env.scope x) (he : SndE X W e m) (ho : PIp X o (ipI h))
    (hop : ∀ p q z, op p q = some z → ∃ i j, p = .int i ∧ q = .int j ∧ z = .int (h i j)) (hb : b = none ∨ i ≠ 0) (hf : X.fn x = true ∨ X.env.scope.names.lookup x = some .local := by first | exact .inl rfl | exact .inr rfl | assumption) :
    SndS X W b (.AugAssign (.Name x pos') o e pos) (mAug i op m) := fun H0 F0 F ρ σ H D f g hp => by
  refine ws_of (ps_aug c.nd hi hx pe_we ho hf) ?_
  unfold mAug at hp
  split at hp
  · rename_i q eq
    obtain ⟨v, ev, rv⟩ := g.val i q eq
    refine ⟨v, ev, ?_⟩
    refine he F ρ σ H _ g (Post.sr f hp fun F1 ρ1 H1 p w st f1 g1 r hp1 => ?_)
    cases ez : op q p with
    | none => rw [ez] at hp1; exact hp1.elim
    | some z =>
      rw [ez] at hp1
      obtain ⟨i1, j1, rfl, rfl, rfl⟩ := hop q p z ez
      unfold Rep at rv
      replace r : Rep X.K F1 (.int j1) w := r
      unfold Rep at r
      exact ⟨i1, j1, rv, r, hp1 F1 _ H1 (f1.setVal hb) (g1.setVal Rep.int)⟩
  · exact hp.elim
def pvAddI : PV → PV → Option PV
  | .int i, .int j => some (.int (i + j))
  | _, _ => none
theorem st_augAdd {i : Nat} {x : Str} {e : Expr} {m : M} {pos' : Pos} (c : Ctx X W) (hi : X.N[i]? = some x) (hx : Loc X.env.scope x) (he : SndE X W e m) (hb : b = none ∨ i ≠ 0) (hf : X.fn x = true ∨ X.env.scope.names.lookup x = some .local := by first | exact .inl rfl | exact .inr rfl | assumption) :
    SndS X W b (.AugAssign (.Name x pos') .Add e pos) (mAug i pvAddI m) := st_aug c hi hx he ip_add (fun p q z h => by unfold pvAddI at h; split at h <;> cases h; exact ⟨_, _, rfl, rfl, rfl⟩) hb hf
theorem st_augSub {i : Nat} {x : Str} {e : Expr} {m : M} {pos' : Pos} (c : Ctx X W) (hi : X.N[i]? = some x) (hx : Loc X.env.scope x) (he : SndE X W e m) (hb : b = none ∨ i ≠ 0) (hf : X.fn x = true ∨ X.env.scope.names.lookup x = some .local := by first | exact .inl rfl | exact .inr rfl | assumption) :
    SndS X W b (.AugAssign (.Name x pos') .Sub e pos) (mAug i pvSub m) := st_aug c hi hx he ip_sub (fun p q z h => by unfold pvSub at h; split at h <;> cases h; exact ⟨_, _, rfl, rfl, rfl⟩) hb hf
/-! if -/
def mIfS (c : MT) (a d : MS) : MS := fun ρ => (c ρ).sr fun k ρ1 => if k = true then a ρ1 else d ρ1
theorem st_if {c : Expr} {a d : List Stmt} {mc : MT} {ma md : MS} (hc : SndT X W c mc) (ha : SndSs X W b a ma) (hd : SndSs X W b d md) : SndS X W b (.If c a d pos) (mIfS mc ma md) := fun H0 F0 F ρ σ H D f g hp => by
  refine ws_of (ps_if pt_wt pss_wss pss_wss) ?_
  refine hc F ρ σ H _ g (Post.sr f hp fun F1 ρ1 H1 p v _ f1 g1 r hp1 => ?_)
  cases (show p = v from r)
  cases p with
  | true => exact ha H0 F0 F1 ρ1 σ H1 D f1 g1 hp1
  | false => exact hd H0 F0 F1 ρ1 σ H1 D f1 g1 hp1
/-! an own list's methods -/
def mAppend (i : Nat) (m : M) : MS := fun ρ => match ρ[i]? with
  | some (.own _) => (m ρ).sr fun p ρ1 => match ρ1[i]? with
    | some (.own xs) => if xs.length < sizeLine then .nx (ρ1.set i (.own (xs ++ [p]))) else .bad
    | _ => .bad
  | _ => .bad
theorem st_append {x : Str} {p0 apos cpos : Pos} {e : Expr} {m : M} (i : Nat) (h : PE X (.Name x p0) (tVar i)) (he : SndE X W e m)
    (hbase : attributeBase (.Name x p0) "append" X.env (eval (.Name x p0) X.env) = eval (.Name x p0) X.env := by rfl)
    (hfew : ((backTo cpos (starEach [e] X.env)).all (fun x => !x.1) && (backToKw cpos (keywordEach [] X.env)).all (fun x => x.1.isSome)
      && decide (([e] : List Expr).length + ([] : List Keyword).length + (if ([] : List Keyword).isEmpty then 0 else 1) < 30)) = true := by rfl)
    (hline : (apos.endLine == cpos.line) = true := by rfl) (hs : starEach [e] X.env = [(false, eval e X.env)] := by rfl)
    (hsw : swapsWith (.Call (.Attribute (.Name x p0) "append" apos) [e] [] cpos) none pos.line X.env = pure false := by rfl) :
    SndS X W b (.Expr (.Call (.Attribute (.Name x p0) "append" apos) [e] [] cpos) pos) (mAppend i m) := fun H0 F0 F ρ σ H D f g hp => by
  refine ws_of (ps_expr (pe_bm PySem.F.plainAttrs_list PySem.F.slot_list_append PySem.F.type_list_append mt_append h (pa_cons pe_we pa_nil hs) hbase hfew hline hs rfl) hsw) ?_
  unfold mAppend at hp
  split at hp
  · rename_i xs0 e0
    obtain ⟨a, vs0, ea, _, ha0, _⟩ := g.own i xs0 e0
    refine ⟨.ref a, ea, .inl ⟨rfl, _, SqL.of ha0⟩, ?_⟩
    refine he F ρ σ H _ g (Post.sr f hp fun F1 ρ1 H1 p v _ f1 g1 r hp1 => ?_)
    split at hp1
    · rename_i xs e1
      obtain ⟨a', vs, ea', fa, ha, rv⟩ := g1.own i xs e1
      rw [ea] at ea'
      cases ea'
      split at hp1
      · rename_i hl
        obtain ⟨g2, s2⟩ := g1.write e1 ea (rv.append (Reps.cons r Reps.nil))
        exact ⟨a, vs, v, rfl, rfl, ha, by rw [← rv.length]; exact hl, hp1 F1 σ _ (f1.step s2) g2⟩
      · exact hp1.elim
    · exact hp1.elim
  · exact hp.elim
/-- name.pop() -/
def mPopN (i : Nat) : M := fun ρ => match ρ[i]? with
  | some (.own xs) => match xs.getLast? with
    | some p => .ok (p, ρ.set i (.own xs.dropLast))
    | none => .bad
  | _ => .bad
theorem s_pop {x : Str} {p0 apos cpos : Pos} (i : Nat) (h : PE X (.Name x p0) (tVar i))
    (hbase : attributeBase (.Name x p0) "pop" X.env (eval (.Name x p0) X.env) = eval (.Name x p0) X.env := by rfl) (hline : (apos.endLine == cpos.line) = true := by rfl) :
    SndE X W (.Call (.Attribute (.Name x p0) "pop" apos) [] [] cpos) (mPopN i) := fun F ρ σ H Q g hp => by
  refine we_of (pe_bm0 PySem.F.plainAttrs_list PySem.F.slot_list_pop PySem.F.type_list_pop mt_pop h hbase hline) ?_
  unfold mPopN at hp
  split at hp
  · rename_i xs e0
    obtain ⟨a, vs, ea, fa, ha, rv⟩ := g.own i xs e0
    split at hp
    · rename_i p ep
      rw [List.getLast?_eq_getElem?] at ep
      obtain ⟨v, ev, r⟩ := rv.get ep
      obtain ⟨g2, s2⟩ := g.write e0 ea rv.dropLast
      refine ⟨.ref a, ea, .inl ⟨rfl, _, SqL.of ha⟩, a, vs, v, rfl, rfl, ha, by rw [← rv.length]; exact ev, ?_⟩
      exact hp F _ v s2 g2 r
    · exact hp.elim
  · exact hp.elim
/-- name[e] = v -/
def mSetIx (i : Nat) (mi mv : M) : MS := fun ρ => (mv ρ).sr fun p ρ1 => match ρ1[i]? with
  | some (.own _) => (mi ρ1).sr fun q ρ2 => match ρ2[i]?, q with
    | some (.own xs), .int k => match ixN xs.length k with
      | some j => .nx (ρ2.set i (.own (xs.set j p)))
      | none => .bad
    | _, _ => .bad
  | _ => .bad
theorem st_setIx {x : Str} {p0 spos : Pos} {ei ev : Expr} {mi mv : M} (i : Nat) (h : PE X (.Name x p0) (tVar i)) (hi : SndE X W ei mi) (hv : SndE X W ev mv)
    (ha : ∀ v, assign (.Subscript (.Name x p0) ei spos) X.env v = (do
      let ov ← holding [v] (eval (.Name x p0) X.env)
      let iv ← holding [v, ov] (eval ei X.env)
      standAt spos
      holding [v, ov, iv] (setItem ov iv v)
      release [v, ov, iv] []) := by intro _; rfl)
    (hs : swapsWithSole [.Subscript (.Name x p0) ei spos] ev pos.line X.env = pure false := by rfl) (hw : swappedStores [.Subscript (.Name x p0) ei spos] ev X.env = pure none := by rfl)
    (h1 : (assignEach [.Subscript (.Name x p0) ei spos] X.env).map (·.2) = [assign (.Subscript (.Name x p0) ei spos) X.env] := by rfl) :
    SndS X W b (.Assign [.Subscript (.Name x p0) ei spos] ev pos) (mSetIx i mi mv) := fun H0 F0 F ρ σ H D f g hp => by
  refine ws_of (ps_asg pe_we (pg_sub h pe_we set_list ha) hs hw h1) ?_
  refine hv F ρ σ H _ g (Post.sr f hp fun F1 ρ1 H1 p v _ f1 g1 r hp1 => ?_)
  split at hp1
  · rename_i xs0 e0
    obtain ⟨a, vs0, ea, _, ha0, _⟩ := g1.own i xs0 e0
    refine ⟨.ref a, ea, ?_⟩
    refine hi F1 ρ1 σ H1 _ g1 (Post.sr f1 hp1 fun F2 ρ2 H2 q w st2 f2 g2 rq hp2 => ?_)
    split at hp2
    · rename_i xs k e1
      obtain ⟨a', vs, ea', fa, ha', rv⟩ := g2.own i xs e1
      rw [ea] at ea'
      cases ea'
      split at hp2
      · rename_i j ej
        replace rq : Rep X.K F2 (.int k) w := rq
        unfold Rep at rq
        obtain ⟨g3, s3⟩ := g2.write e1 ea (rv.set j (Rep.mono st2.ff _ _ r))
        exact ⟨a, vs, k, j, rfl, rq, ha', by rw [← rv.length]; exact ej, hp2 F2 σ _ (f2.step s3) g3⟩
      · exact hp2.elim
    · exact hp2.elim
  · exact hp1.elim
end
end Ev

set_option Elab.async false
set_option linter.all false
set_option maxRecDepth 100000
namespace Ev
open PySem L2
/-! ### while -/
def whileF (c : MT) (body : MS) : Nat → Rho → SR
  | 0, _ => .bad
  | n + 1, ρ => (c ρ).sr fun k ρ1 => if k = true then (match body ρ1 with
      | .nx ρ2 => whileF c body n ρ2
      | .ct ρ2 => whileF c body n ρ2
      | .bk ρ2 => .nx ρ2
      | r => r) else .nx ρ1
theorem whileF_succ (c : MT) (body : MS) : ∀ (n : Nat) (ρ : Rho), whileF c body n ρ ≠ .bad → whileF c body (n + 1) ρ = whileF c body n ρ
  | 0, ρ, h => absurd rfl h
  | n + 1, ρ, h => by
    rw [whileF, whileF] at *
    cases hc : c ρ with
    | bad => rfl
    | exc x r => rfl
    | ok z =>
      obtain ⟨k, ρ1⟩ := z
      rw [hc] at h
      simp only [Res.sr_ok] at h ⊢
      cases k with
      | false => rfl
      | true =>
        simp only [if_true] at h ⊢
        cases hb : body ρ1 with
        | nx ρ2 => rw [hb] at h; exact whileF_succ c body n ρ2 h
        | ct ρ2 => rw [hb] at h; exact whileF_succ c body n ρ2 h
        | bk ρ2 => rfl
        | rt p r => rfl
        | rf p r => rfl
        | exc x r => rfl
        | bad => rfl
theorem whileF_le (c : MT) (body : MS) (n : Nat) (ρ : Rho) (h : whileF c body n ρ ≠ .bad) : ∀ k, whileF c body (n + k) ρ = whileF c body n ρ
  | 0 => rfl
  | k + 1 => by
    have ih := whileF_le c body n ρ h k
    rw [← Nat.add_assoc, whileF_succ c body (n + k) ρ (by rw [ih]; exact h), ih]
open Classical in
noncomputable def mWhile (c : MT) (body : MS) : MS := fun ρ => if h : ∃ n, whileF c body n ρ ≠ .bad then whileF c body h.choose ρ else .bad
theorem mWhile_of {c : MT} {body : MS} {ρ : Rho} {n : Nat} (h : whileF c body n ρ ≠ .bad) : mWhile c body ρ = whileF c body n ρ := by
  unfold mWhile
  have ex : ∃ n, whileF c body n ρ ≠ .bad := ⟨n, h⟩
  rw [dif_pos ex]
  have h2 := ex.choose_spec
  generalize ex.choose = m at h2 ⊢
  rcases Nat.le_total n m with hl | hl
  · obtain ⟨k, rfl⟩ := Nat.exists_eq_add_of_le hl
    exact whileF_le c body n ρ h k
  · obtain ⟨k, rfl⟩ := Nat.exists_eq_add_of_le hl
    exact (whileF_le c body m ρ h2 k).symm
theorem mWhile_cases (c : MT) (body : MS) (ρ : Rho) : mWhile c body ρ = .bad ∨ ∃ n, mWhile c body ρ = whileF c body n ρ := by
  by_cases h : ∃ n, whileF c body n ρ ≠ .bad
  · exact .inr ⟨_, mWhile_of h.choose_spec⟩
  · left; unfold mWhile; rw [dif_neg h]
/-- a while's one turn -/
theorem mWhile_eq (c : MT) (body : MS) (ρ : Rho) : mWhile c body ρ = (c ρ).sr fun k ρ1 => if k = true then (match body ρ1 with
      | .nx ρ2 => mWhile c body ρ2
      | .ct ρ2 => mWhile c body ρ2
      | .bk ρ2 => .nx ρ2
      | r => r) else .nx ρ1 := by
  have step : ∀ n, whileF c body (n + 1) ρ = (c ρ).sr fun k ρ1 => if k = true then (match body ρ1 with
      | .nx ρ2 => whileF c body n ρ2
      | .ct ρ2 => whileF c body n ρ2
      | .bk ρ2 => .nx ρ2
      | r => r) else .nx ρ1 := fun n => by rw [whileF]
  cases hc : c ρ with
  | bad =>
    have : ∀ n, whileF c body n ρ = .bad := fun n => by
      cases n with
      | zero => rfl
      | succ n => rw [step, hc]; rfl
    rcases mWhile_cases c body ρ with h | ⟨n, h⟩
    · rw [h]; rfl
    · rw [h, this]; rfl
  | exc x r =>
    have h1 : whileF c body 1 ρ = .exc x r := by rw [step, hc]; rfl
    rw [mWhile_of (n := 1) (by rw [h1]; exact SR.noConfusion), h1]; rfl
  | ok z =>
    obtain ⟨k, ρ1⟩ := z
    simp only [Res.sr_ok]
    cases k with
    | false =>
      have h1 : whileF c body 1 ρ = .nx ρ1 := by rw [step, hc]; rfl
      rw [mWhile_of (n := 1) (by rw [h1]; exact SR.noConfusion), h1]; rfl
    | true =>
      simp only [if_true]
      have loop : ∀ ρ2, (∀ n, whileF c body (n + 1) ρ = whileF c body n ρ2) → mWhile c body ρ = mWhile c body ρ2 := fun ρ2 hs => by
        rcases mWhile_cases c body ρ2 with h | ⟨n, h⟩
        · rcases mWhile_cases c body ρ with h' | ⟨m, h'⟩
          · rw [h, h']
          · cases m with
            | zero => rw [h', h]; rfl
            | succ m =>
              by_cases hb : whileF c body m ρ2 = .bad
              · rw [h', hs, hb, h]
              · rw [h', hs, mWhile_of hb]
        · by_cases hb : whileF c body n ρ2 = .bad
          · rw [h, hb]
            rcases mWhile_cases c body ρ with h' | ⟨m, h'⟩
            · exact h'
            · cases m with
              | zero => rw [h']; rfl
              | succ m =>
                by_cases hb' : whileF c body m ρ2 = .bad
                · rw [h', hs, hb']
                · have := mWhile_of hb'
                  rw [h, hb] at this
                  exact absurd this.symm hb'
          · rw [h, mWhile_of (n := n + 1) (by rw [hs]; exact hb), hs]
      have one : ∀ r, r ≠ SR.bad → whileF c body 1 ρ = r → mWhile c body ρ = r := fun r hr h => by
        rw [mWhile_of (n := 1) (by rw [h]; exact hr), h]
      cases hb : body ρ1 with
      | nx ρ2 => exact loop ρ2 fun n => by rw [step, hc]; simp [hb]
      | ct ρ2 => exact loop ρ2 fun n => by rw [step, hc]; simp [hb]
      | bk ρ2 => exact one _ SR.noConfusion (by rw [step, hc]; simp [hb])
      | rt p r => exact one _ SR.noConfusion (by rw [step, hc]; simp [hb])
      | rf p r => exact one _ SR.noConfusion (by rw [step, hc]; simp [hb])
      | exc x r => exact one _ SR.noConfusion (by rw [step, hc]; simp [hb])
      | bad =>
        rcases mWhile_cases c body ρ with h | ⟨n, h⟩
        · exact h
        · rw [h]
          cases n with
          | zero => rfl
          | succ n => rw [step, hc]; simp [hb]
section
variable {X : Cx} {W : WX} {b : Option Addr} {pos : Pos}
theorem st_while {c : Expr} {body : List Stmt} {mc : MT} {mb : MS} (cx : Ctx X W) (hc : SndT X W c mc) (hb : SndSs X W b body mb) : SndS X W b (.While c body [] pos) (mWhile mc mb) := fun H0 F0 F ρ σ H D f g hp => by
  refine ws_of (ps_while cx.own pt_wt pss_wss) ?_
  rcases mWhile_cases mc mb ρ with h | ⟨n, h⟩
  · rw [h] at hp; exact hp.elim
  rw [h] at hp
  refine ⟨fun m σ H => ∃ F ρ, Fr0 H0 F0 b ρ σ F H ∧ Good X.K F ρ σ H ∧ PostS X W b H0 F0 (whileF mc mb m ρ) D, ⟨n, F, ρ, f, g, hp⟩, ?_⟩
  rintro m σ H ⟨F, ρ, f, g, hp⟩
  cases m with
  | zero => exact hp.elim
  | succ m =>
    rw [whileF] at hp
    refine hc F ρ σ H _ g (Post.sr f hp fun F1 ρ1 H1 k v _ f1 g1 r hp1 => ?_)
    cases (show k = v from r)
    cases k with
    | false => exact hp1 F1 σ H1 f1 g1
    | true =>
      simp only [if_true] at hp1 ⊢
      refine ⟨fun σ' H' => ∃ F ρ, Fr0 H0 F0 b ρ σ' F H' ∧ Good X.K F ρ σ' H' ∧ PostS X W b H0 F0 (whileF mc mb m ρ) D, fun σ' H' z => ⟨m, Nat.lt_succ_self _, z⟩, ?_⟩
      refine hb H0 F0 F1 ρ1 σ H1 _ f1 g1 ?_
      cases e : mb ρ1 with
      | nx ρ2 => rw [e] at hp1; exact fun F' σ' H' f' g' => ⟨F', ρ2, f', g', hp1⟩
      | ct ρ2 => rw [e] at hp1; exact fun F' σ' H' f' g' => ⟨F', ρ2, f', g', hp1⟩
      | bk ρ2 => rw [e] at hp1; exact hp1
      | rt p r => rw [e] at hp1; exact hp1
      | rf p r => rw [e] at hp1; exact hp1
      | exc x r => rw [e] at hp1; exact hp1
      | bad => rw [e] at hp1; exact hp1
/-! ### what is walked -/
/-- at a turn: the item as it lies, or a tuple just made -/
def ItemAt (K : PySem.W.Frag) (F H : Hp) (p : PV) (x : V) (H' : Hp) : Prop :=
  (H' = H ∧ Rep K F p x) ∨ ∃ T o, H T = none ∧ H' = upd H T o ∧ Rep K (upd F T o) p x
structure IterOk (K : PySem.W.Frag) (F1 : Hp) (J : It) (ps : List PV) : Prop where
  ex : ∃ G Y, Walk J ps.length G Y ∧ (∀ H2, Same F1 H2 → G H2) ∧ ∀ (i : Nat) p F2 H2 x H3, ps[i]? = some p → Same F1 F2 → Same F2 H2 → Y i H2 x H3 → ItemAt K F2 H2 p x H3
@[irreducible] def WI (X : Cx) (tg iter : Expr) : TI := fun σ H R => ∀ (pins : List (Addr × Obj)) (s : Shared), Inv X pins σ H s →
  wpAny (model X.prog X.w) X.A (eval iter X.env) (fun v s1 => wpAny (model X.prog X.w) X.A (pyIter v) (PIE X pins σ tg R) X.xe s1) X.xe s
theorem pi_wi {tg iter : Expr} : PI X tg iter (WI X tg iter) := ⟨fun pins s _ _ _ I h => by unfold WI at h; exact h pins s I⟩
theorem wi_of {tg iter : Expr} {w : TI} {σ : St} {H : Hp} {R : It → Hp → Prop} (p : PI X tg iter w) (h : w σ H R) : WI X tg iter σ H R := by unfold WI; exact fun pins s I => p.run pins s σ H R I h
abbrev MI := Rho → Res (List PV × Rho)
def repI (K : PySem.W.Frag) : RepT (List PV) It := fun _ F _ _ ps J => IterOk K F J ps
instance (K : PySem.W.Frag) : RepM (repI K) := ⟨fun _ _ _ _ _ _ _ _ h => h⟩
def SndI (X : Cx) (W : WX) (tg iter : Expr) (m : MI) : Prop :=
  ∀ (F : Hp) (ρ : Rho) (σ : St) (H : Hp) (R : It → Hp → Prop), Good X.K F ρ σ H → Post (repI X.K) X W F ρ σ H (m ρ) R → WI X tg iter σ H R
/-! a list, a tuple, a text by signs: values -/
def iSeq (K : PySem.W.Frag) (tl : TE) : TI := fun σ H R => tl σ H fun x H1 => (∃ a, x = .ref a ∧ (∃ xs, SqL K H1 a xs) ∧ R (Itl K a) H1) ∨ (∃ a, x = .ref a ∧ (∃ xs, SqT K H1 a xs) ∧ R (Itt K a) H1)
theorem pi_seq {tg l : Expr} {tl : TE} (hl : PE X l tl) : PI X tg l (iSeq X.K tl) := by
  refine ⟨fun pins s σ H R I h => ?_⟩
  refine thn (hl.run pins s σ H _ I h) fun v s1 ⟨x, H1, I1, r1, q1⟩ => ?_
  rcases q1 with ⟨a, e, ⟨xs, hq⟩, q⟩ | ⟨a, e, ⟨xs, hq⟩, q⟩
  · subst e
    cases r1
    obtain ⟨its, rv, p, hz⟩ := I1.list hq
    refine wpAny_pyIter_list p.isList ?_
    refine ⟨s1.heap.objs.size, [s1.heap.objs.size], _, _, H1, rfl, I1.kept (t' := s1.toks) fun b o e => Heap.get?_push_of_some _ e, turn_list a _, ⟨_, Heap.get?_push_size _ rfl, rfl, rfl⟩, fun b hb => ?_, q⟩
    have e : b = s1.heap.objs.size := by simpa using hb
    subst e
    exact I1.fpOk (Nat.le_refl _) (I1.hok.fresh (Nat.le_refl _))
  · subst e
    cases r1
    obtain ⟨its, rv, p, hz⟩ := I1.tuple hq
    refine wpAny_pyIter_tuple (show s1.heap.IsTuple a its.toArray from p) ?_
    refine ⟨s1.heap.objs.size, [s1.heap.objs.size], _, _, H1, rfl, I1.kept (t' := s1.toks) fun b o e => Heap.get?_push_of_some _ e, turn_tuple a _, ⟨_, Heap.get?_push_size _ rfl, rfl, rfl⟩, fun b hb => ?_, q⟩
    have e : b = s1.heap.objs.size := by simpa using hb
    subst e
    exact I1.fpOk (Nat.le_refl _) (I1.hok.fresh (Nat.le_refl _))
theorem IterOk.list {K : PySem.W.Frag} {F : Hp} {a : Addr} {ps : List PV} {vs : List V} (h : F a = some (.lst vs)) (r : Reps K F ps vs) : IterOk K F (Itl K a) ps := ⟨by
  refine ⟨_, _, r.length ▸ (walk_list (K := K) (a := a) (xs := vs)), fun H2 s => SqL.of (s _ _ h), fun i p F2 H2 x H3 e s1 s2 y => ?_⟩
  obtain ⟨rfl, hx⟩ := y
  obtain ⟨v, ev, rv⟩ := r.get e
  rw [ev] at hx
  cases hx
  exact .inl ⟨rfl, Rep.mono s1 _ _ rv⟩⟩
theorem IterOk.tup {K : PySem.W.Frag} {F : Hp} {a : Addr} {ps : List PV} {vs : List V} (h : F a = some (.tup vs)) (r : Reps K F ps vs) : IterOk K F (Itt K a) ps := ⟨by
  refine ⟨_, _, r.length ▸ (walk_tup (K := K) (a := a) (xs := vs)), fun H2 s => SqT.of (s _ _ h), fun i p F2 H2 x H3 e s1 s2 y => ?_⟩
  obtain ⟨rfl, hx⟩ := y
  obtain ⟨v, ev, rv⟩ := r.get e
  rw [ev] at hx
  cases hx
  exact .inl ⟨rfl, Rep.mono s1 _ _ rv⟩⟩
theorem IterOk.scr {K : PySem.W.Frag} {F : Hp} {a : Addr} {ns : List Int} (h : SqL K F a (ns.map V.int)) : IterOk K F (Itl K a) (ns.map .int) := ⟨by
  refine ⟨_, _, (by rw [List.length_map, ← List.length_map (f := V.int)]; exact walk_list (K := K) (a := a) (xs := ns.map V.int)), fun H2 s => s.seq h, fun i p F2 H2 x H3 e s1 s2 y => ?_⟩
  obtain ⟨rfl, hx⟩ := y
  rw [List.getElem?_map] at hx e
  cases en : ns[i]? with
  | none => rw [en] at e; cases e
  | some n =>
    rw [en] at hx e
    cases hx
    cases e
    exact .inl ⟨rfl, Rep.int⟩⟩
def pvSeq : PV → Option (List PV)
  | .lst xs => some xs
  | .tup xs => some xs
  | .scr ns => some (ns.map .int)
  | _ => none
def mSeqI (m : M) : MI := fun ρ => (m ρ).bnd fun p ρ1 => Res.of (pvSeq p) ρ1
theorem i_seq {tg e : Expr} {m : M} (h : SndE X W e m) : SndI X W tg e (mSeqI m) := fun F ρ σ H R g hp => by
  refine wi_of (pi_seq pe_we) ?_
  refine h.then g hp fun F1 ρ1 H1 p v st g1 rp hp1 => ?_
  obtain ⟨ps, eps⟩ := hp1.some
  unfold pvSeq at eps
  split at eps
  · unfold Rep at rp
    obtain ⟨a, vs, rfl, h1, h2⟩ := rp
    cases eps
    exact .inl ⟨a, rfl, ⟨_, SqL.of (g1.sub _ _ h1)⟩, hp1 F1 H1 _ Stp.refl g1 (IterOk.list h1 h2)⟩
  · unfold Rep at rp
    obtain ⟨a, vs, rfl, h1, h2⟩ := rp
    cases eps
    exact .inr ⟨a, rfl, ⟨_, SqT.of (g1.sub _ _ h1)⟩, hp1 F1 H1 _ Stp.refl g1 (IterOk.tup h1 h2)⟩
  · unfold Rep at rp
    obtain ⟨a, rfl, h1⟩ := rp
    cases eps
    exact .inl ⟨a, rfl, ⟨_, g1.sub.seq h1⟩, hp1 F1 H1 _ Stp.refl g1 (IterOk.scr h1)⟩
  · cases eps
/-! range -/
def rangeP (lo : Int) (n : Nat) : List PV := (List.range n).map fun (i : Nat) => .int (lo + i)
def small62 (i : Int) : Bool := decide (-(2 ^ 62) ≤ i ∧ i < 2 ^ 62)
def pvRange : List PV → Option (List PV)
  | [.int j] => if small62 j then some (rangeP 0 j.toNat) else none
  | [.int i, .int j] => if small62 i && small62 j then some (rangeP i (j - i).toNat) else none
  | _ => none
theorem IterOk.range {K : PySem.W.Frag} {F : Hp} (lo : Int) (n : Nat) : IterOk K F (Itr lo n) (rangeP lo n) := ⟨by
  have hl : (rangeP lo n).length = n := by simp [rangeP]
  refine ⟨_, _, (show Walk _ (rangeP lo n).length _ _ by rw [hl]; exact walk_range (lo := lo) (n := n)), fun _ _ => trivial, fun i p F2 H2 x H3 e _ _ y => ?_⟩
  obtain ⟨rfl, rfl⟩ := y
  unfold rangeP at e
  rw [List.getElem?_map] at e
  cases er : (List.range n)[i]? with
  | none => rw [er] at e; cases e
  | some k =>
    rw [er] at e
    cases e
    have : k = i := by
      rw [List.getElem?_range] at er
      · cases er; rfl
      · by_cases h : i < n
        · exact h
        · rw [List.getElem?_eq_none (by simp; omega)] at er; cases er
    subst this
    exact .inl ⟨rfl, Rep.int⟩⟩
def mRange (ms : List M) : MI := fun ρ => (mArgs ms ρ).bnd fun ps ρ1 => Res.of (pvRange ps) ρ1
section
variable {p : Pos} {tg e e2 : Expr} {m m' : M}
theorem i_range1 (hg : Gl X "range") (hm : X.mg "range" = none) (ha : SndE X W e m) (hs : starEach [e] X.env = [(false, eval e X.env)] := by rfl) : SndI X W tg (.Call (.Name "range" p) [e] [] pos) (mRange [m]) := fun F ρ σ H R g hp => by
  refine wi_of (pi_range1 hg hm pa_wa hs) ?_
  refine (sa_cons ha sa_nil hs).thenL g hp fun F1 ρ1 H1 ps vs st g1 rp len hp1 => ?_
  obtain ⟨z, ez⟩ := hp1.some
  unfold pvRange at ez
  split at ez
  · rename_i j
    split at ez
    · rename_i h
      cases ez
      obtain ⟨v, rfl, r⟩ := rp.one
      unfold Rep at r
      subst r
      have h' := h
      simp only [small62, decide_eq_true_eq] at h
      refine ⟨j, rfl, h.1, h.2, ?_⟩
      refine hp1.here (p := rangeP 0 j.toNat) ?_ g1 (IterOk.range _ _)
      simp only [pvRange]
      rw [if_pos h']
    · cases ez
  · simp at len
  · cases ez
theorem i_range2 (hg : Gl X "range") (hm : X.mg "range" = none) (ha : SndE X W e m) (hb : SndE X W e2 m') (hs : starEach [e, e2] X.env = [(false, eval e X.env), (false, eval e2 X.env)] := by rfl) (hs2 : starEach [e2] X.env = [(false, eval e2 X.env)] := by rfl) : SndI X W tg (.Call (.Name "range" p) [e, e2] [] pos) (mRange [m, m']) := fun F ρ σ H R g hp => by
  refine wi_of (pi_range2 hg hm pa_wa hs hs2) ?_
  refine (sa_cons ha (sa_cons hb sa_nil hs2) (by rw [hs, hs2])).thenL g hp fun F1 ρ1 H1 ps vs st g1 rp len hp1 => ?_
  obtain ⟨z, ez⟩ := hp1.some
  unfold pvRange at ez
  split at ez
  · simp at len
  · rename_i i j
    split at ez
    · rename_i h
      cases ez
      obtain ⟨v, w, rfl, r, r'⟩ := rp.two
      unfold Rep at r r'
      subst r r'
      have h' := h
      simp only [small62, Bool.and_eq_true, decide_eq_true_eq] at h
      refine ⟨i, j, rfl, ⟨h.1.1, h.1.2, h.2.1, h.2.2⟩, ?_⟩
      refine hp1.here (p := rangeP i (j - i).toNat) ?_ g1 (IterOk.range _ _)
      simp only [pvRange]
      rw [if_pos h']
    · cases ez
  · cases ez
/-! reversed -/
def pvRevI : PV → Option (List PV)
  | .lst xs => some xs.reverse
  | .tup xs => some xs.reverse
  | _ => none
def mRevI (m : M) : MI := fun ρ => (m ρ).bnd fun p ρ1 => Res.of (pvRevI p) ρ1
theorem walk_revT {K : PySem.W.Frag} {a : Addr} {xs : List V} : Walk (RT.ItvT K a xs.length) xs.length (fun H => SqT K H a xs) (fun i H x H' => H' = H ∧ xs[xs.length - 1 - i]? = some x) :=
  ⟨fun i _ hi q => ⟨hi, xs, xs[xs.length - 1 - i]'(by omega), q, by simp [show xs.length - 1 - i < xs.length by omega]⟩, fun _ _ => Nat.le_refl _, fun _ _ _ _ _ q y => ⟨y.1, y.2 xs q⟩⟩
theorem rev_get {α : Type} {ps : List α} {i : Nat} {p : α} (h : ps.reverse[i]? = some p) : ps[ps.length - 1 - i]? = some p ∧ i < ps.length := by
  have hi : i < ps.reverse.length := by
    by_cases z : i < ps.reverse.length
    · exact z
    · rw [List.getElem?_eq_none (by omega)] at h; cases h
  rw [List.length_reverse] at hi
  rw [List.getElem?_reverse hi] at h
  exact ⟨h, hi⟩
theorem i_rev (hg : Gl X "reversed") (hm : X.mg "reversed" = none) (h : SndE X W e m) (hs : starEach [e] X.env = (false, eval e X.env) :: starEach [] X.env := by rfl) : SndI X W tg (.Call (.Name "reversed" p) [e] [] pos) (mRevI m) := fun F ρ σ H R g hp => by
  refine wi_of (RT.pi_revA hg hm pe_we hs) ?_
  refine h.then g hp fun F1 ρ1 H1 q v st g1 rp hp1 => ?_
  obtain ⟨ps, eps⟩ := hp1.some
  unfold pvRevI at eps
  split at eps
  · rename_i xs
    unfold Rep at rp
    obtain ⟨a, vs, rfl, h1, h2⟩ := rp
    cases eps
    refine ⟨a, vs, rfl, .inl ⟨SqL.of (g1.sub _ _ h1), hp1 F1 H1 _ Stp.refl g1 ⟨?_⟩⟩⟩
    refine ⟨_, _, (show Walk _ xs.reverse.length _ _ by rw [List.length_reverse, h2.length]; exact walk_rev (K := X.K) (a := a) (xs := vs)), fun H2 s => SqL.of (s _ _ h1), fun i p F2 H2 x H3 e s1 s2 y => ?_⟩
    obtain ⟨rfl, hx⟩ := y
    obtain ⟨e1, e2⟩ := rev_get e
    obtain ⟨w, ew, rw'⟩ := h2.get e1
    rw [h2.length] at ew
    rw [ew] at hx
    cases hx
    exact .inl ⟨rfl, Rep.mono s1 _ _ rw'⟩
  · rename_i xs
    unfold Rep at rp
    obtain ⟨a, vs, rfl, h1, h2⟩ := rp
    cases eps
    refine ⟨a, vs, rfl, .inr ⟨SqT.of (g1.sub _ _ h1), hp1 F1 H1 _ Stp.refl g1 ⟨?_⟩⟩⟩
    refine ⟨_, _, (show Walk _ xs.reverse.length _ _ by rw [List.length_reverse, h2.length]; exact walk_revT (K := X.K) (a := a) (xs := vs)), fun H2 s => SqT.of (s _ _ h1), fun i p F2 H2 x H3 e s1 s2 y => ?_⟩
    obtain ⟨rfl, hx⟩ := y
    obtain ⟨e1, e2⟩ := rev_get e
    obtain ⟨w, ew, rw'⟩ := h2.get e1
    rw [h2.length] at ew
    rw [ew] at hx
    cases hx
    exact .inl ⟨rfl, Rep.mono s1 _ _ rw'⟩
  · cases eps
end
/-! ### for -/
def forL (g : MG) (body : MS) : List PV → Rho → SR
  | [], ρ => .nx ρ
  | p :: ps, ρ => match g p ρ with
    | none => .bad
    | some ρ1 => match body ρ1 with
      | .nx ρ2 => forL g body ps ρ2
      | .ct ρ2 => forL g body ps ρ2
      | .bk ρ2 => .nx ρ2
      | r => r
def mFor (mi : MI) (g : MG) (body : MS) : MS := fun ρ => (mi ρ).sr fun ps ρ1 => forL g body ps ρ1
theorem PostS.rebase {H0 F0 F H : Hp} {ρ : Rho} {σ : St} {r : SR} {D : Ends} (f : Fr0 H0 F0 b ρ σ F H) (h : PostS X W b H0 F0 r D) : PostS X W b H0 F r D := by
  match r, h with
  | .nx ρ', h => exact fun F' σ' H' f' g => h F' σ' H' (f.trans f') g
  | .rt p ρ', h => exact fun F' σ' H' v f' g r => h F' σ' H' v (f.trans f') g r
  | .rf p ρ', h => exact fun F' σ' H' v f' g r => h F' σ' H' v (f.trans f') g r
  | .bk ρ', h => exact fun F' σ' H' f' g => h F' σ' H' (f.trans f') g
  | .ct ρ', h => exact fun F' σ' H' f' g => h F' σ' H' (f.trans f') g
  | .exc x ρ', h => exact fun F' σ' H' cls d f' g r => h F' σ' H' cls d (f.trans f') g r
theorem st_for {ws : List Nat} {tg iter : Expr} {body : List Stmt} {mi : MI} {mg : MG} {mb : MS} (c : Ctx X W) (hi : SndI X W tg iter mi) (hg : SndG X b ws tg mg) (hb : SndSs X W b body mb) (hs : ∀ x, foldedSetIterable iter X.env x = pure x := by intro _; rfl) :
    SndS X W b (.For tg iter body [] pos) (mFor mi mg mb) := fun H0 F0 F ρ σ H D f g hp => by
  refine ws_of (ps_for c.own c.calm pi_wi pg_wg pss_wss hs) ?_
  refine hi F ρ σ H _ g (Post.sr f hp fun F1 ρ1 H1 ps J _ f1 g1 r hp1 => ?_)
  obtain ⟨G, Y, wk, hG, hY⟩ := r.ex
  refine for_it wk (fun i σ H => ∃ F ρ, Same F1 F ∧ Fr0 H0 F0 b ρ σ F H ∧ Good X.K F ρ σ H ∧ PostS X W b H0 F0 (forL mg mb (ps.drop i) ρ) D) ⟨F1, ρ1, Same.refl _, f1, g1, hp1⟩ (fun i σ H _ ⟨F, ρ, s, _, g, _⟩ => hG H (s.trans g.sub)) ?_ ?_
  · rintro i x σ H H' hi ⟨F, ρ, sF, f, g, hp⟩ y
    obtain ⟨p, ep⟩ : ∃ p, ps[i]? = some p := ⟨_, List.getElem?_eq_getElem hi⟩
    have ed : ps.drop i = p :: ps.drop (i + 1) := by
      have h1 := List.getElem?_eq_some_iff.mp ep
      rw [List.drop_eq_getElem_cons hi, h1.2]
    rw [ed, forL] at hp
    have main : ∀ F' H', Same F F' → Fr0 H0 F0 b ρ σ F' H' → Good X.K F' ρ σ H' → Rep X.K F' p x → WG X tg x σ H' fun σ2 H2 => WSs X body { D with nx := fun σ H => ∃ F ρ, Same F1 F ∧ Fr0 H0 F0 b ρ σ F H ∧ Good X.K F ρ σ H ∧ PostS X W b H0 F0 (forL mg mb (ps.drop (i + 1)) ρ) D, ct := fun σ H => ∃ F ρ, Same F1 F ∧ Fr0 H0 F0 b ρ σ F H ∧ Good X.K F ρ σ H ∧ PostS X W b H0 F0 (forL mg mb (ps.drop (i + 1)) ρ) D, bk := D.nx } σ2 H2 := fun F' H' sF' f' g' rp => by
      cases eg : mg p ρ with
      | none => rw [eg] at hp; exact hp.elim
      | some ρ2 =>
        rw [eg] at hp
        refine hg H0 F0 F' ρ σ H' p x ρ2 _ f' g' rp eg fun σ2 _ _ f2 g2 => ?_
        refine hb H0 F' F' ρ2 σ2 H' _ f2.rebase g2 ?_
        simp only at hp
        cases e : mb ρ2 with
        | nx ρ3 => rw [e] at hp; exact fun F'' σ'' H'' f'' g'' => ⟨F'', ρ3, (sF.trans sF').trans f''.ff, f2.trans f'', g'', hp⟩
        | ct ρ3 => rw [e] at hp; exact fun F'' σ'' H'' f'' g'' => ⟨F'', ρ3, (sF.trans sF').trans f''.ff, f2.trans f'', g'', hp⟩
        | bk ρ3 => rw [e] at hp; exact fun F'' σ'' H'' f'' g'' => hp F'' σ'' H'' (f2.trans f'') g''
        | rt q r => rw [e] at hp; exact PostS.rebase f2 hp
        | rf q r => rw [e] at hp; exact PostS.rebase f2 hp
        | exc q r => rw [e] at hp; exact PostS.rebase f2 hp
        | bad => rw [e] at hp; exact hp
    rcases hY i p F H x H' ep sF g.sub y with ⟨rfl, rp⟩ | ⟨T, o, hT, rfl, rp⟩
    · exact main F H' (Same.refl _) f g rp
    · exact main (L2.upd F T o) _ (Same.upd (g.fnone hT)) (f.step (Stp.alloc g hT)) (g.alloc hT) rp
  · rintro σ H ⟨F, ρ, _, f, g, hp⟩
    rw [List.drop_of_length_le (Nat.le_refl _)] at hp
    exact hp F σ H f g
end
end Ev

set_option Elab.async false
set_option linter.all false
set_option maxRecDepth 100000
namespace Ev
open PySem L2
/-! ### list comprehensions -/
def wipeR (ρ : Rho) : List Nat → Rho
  | [] => ρ
  | v :: vs => (wipeR ρ vs).set v .emp
/-- the slots ws as they were in ρ0 -/
def backR (ρ0 ρ : Rho) : List Nat → Rho
  | [] => ρ
  | v :: vs => match ρ0[v]? with
    | some s => (backR ρ0 ρ vs).set v s
    | none => backR ρ0 ρ vs
theorem wipeR_len (ρ : Rho) : ∀ ws, (wipeR ρ ws).length = ρ.length
  | [] => rfl
  | w :: ws => by unfold wipeR; rw [List.length_set, wipeR_len ρ ws]
theorem wipeR_get {ρ : Rho} {i : Nat} : ∀ {ws : List Nat} {s : Slot}, (wipeR ρ ws)[i]? = some s → (i ∈ ws ∧ s = .emp) ∨ (i ∉ ws ∧ ρ[i]? = some s)
  | [], s, h => .inr ⟨by simp, h⟩
  | w :: ws, s, h => by
    unfold wipeR at h
    rcases get_set h with ⟨rfl, z⟩ | ⟨ne, z⟩
    · exact .inl ⟨List.mem_cons_self, z.symm⟩
    · rcases wipeR_get z with ⟨a, b⟩ | ⟨a, b⟩
      · exact .inl ⟨List.mem_cons_of_mem _ a, b⟩
      · exact .inr ⟨fun q => (List.mem_cons.mp q).elim (fun q => ne q.symm) a, b⟩
theorem wipe_get {σ : St} {i : Nat} : ∀ {ws : List Nat}, i ∉ ws → (wipe σ ws)[i]? = σ[i]? := fun h => wipe_out h
theorem backR_get {ρ0 ρ : Rho} {i : Nat} (hl : ρ.length = ρ0.length) : ∀ {ws : List Nat} {s : Slot}, (backR ρ0 ρ ws)[i]? = some s → (i ∈ ws ∧ ρ0[i]? = some s) ∨ (i ∉ ws ∧ ρ[i]? = some s)
  | [], s, h => .inr ⟨by simp, h⟩
  | w :: ws, s, h => by
    unfold backR at h
    split at h
    · rename_i s0 e0
      rcases get_set h with ⟨rfl, z⟩ | ⟨ne, z⟩
      · subst z; exact .inl ⟨List.mem_cons_self, e0⟩
      · rcases backR_get hl z with ⟨a, b⟩ | ⟨a, b⟩
        · exact .inl ⟨List.mem_cons_of_mem _ a, b⟩
        · exact .inr ⟨fun q => (List.mem_cons.mp q).elim (fun q => ne q.symm) a, b⟩
    · rename_i e0
      rcases backR_get hl h with ⟨a, b⟩ | ⟨a, b⟩
      · exact .inl ⟨List.mem_cons_of_mem _ a, b⟩
      · refine .inr ⟨fun q => (List.mem_cons.mp q).elim (fun q => ?_) a, b⟩
        subst q
        have : i < ρ.length := by
          by_cases z : i < ρ.length
          · exact z
          · rw [List.getElem?_eq_none (by omega)] at b; cases b
        rw [List.getElem?_eq_none_iff] at e0
        omega
theorem backR_len (ρ0 ρ : Rho) : ∀ ws, (backR ρ0 ρ ws).length = ρ.length
  | [] => rfl
  | w :: ws => by
    unfold backR
    split
    · rw [List.length_set, backR_len ρ0 ρ ws]
    · exact backR_len ρ0 ρ ws
section
variable {K : PySem.W.Frag} {F F' H H' : Hp} {ρ ρ' : Rho} {σ : St} {ws : List Nat}
theorem Good.wipe (g : Good K F ρ σ H) : Good K F (wipeR ρ ws) (wipe σ ws) H := by
  refine ⟨g.sub, by rw [wipeR_len, wipe_length]; exact g.len, fun i p e => ?_, fun i xs e => ?_, fun i j xs ys a e1 e2 e3 e4 => ?_⟩
  · rcases wipeR_get e with ⟨_, z⟩ | ⟨n, z⟩
    · cases z
    · rw [wipe_get n]; exact g.val i p z
  · rcases wipeR_get e with ⟨_, z⟩ | ⟨n, z⟩
    · cases z
    · rw [wipe_get n]; exact g.own i xs z
  · rcases wipeR_get e1 with ⟨_, z⟩ | ⟨n1, z1⟩
    · cases z
    · rcases wipeR_get e2 with ⟨_, z⟩ | ⟨n2, z2⟩
      · cases z
      · rw [wipe_get n1] at e3
        rw [wipe_get n2] at e4
        exact g.apart i j xs ys a z1 z2 e3 e4
/-- the own names' slots forgotten: where σ' differs from σ at them alone -/
theorem Good.wipe2 {σ' : St} (g : Good K F ρ σ' H) (h : L2.wipe σ' ws = L2.wipe σ ws) : Good K F (wipeR ρ ws) (L2.wipe σ ws) H := by
  rw [← h]; exact g.wipe
theorem notOwn_wipe {q : Addr} (n : NotOwn ρ σ q) : NotOwn (wipeR ρ ws) (wipe σ ws) q := fun i xs e z => by
  rcases wipeR_get e with ⟨_, w⟩ | ⟨m, w⟩
  · cases w
  · rw [wipe_get m] at z
    exact n i xs w z
/-- behind the block: the slots are as they were ahead of it -/
theorem Good.unwipe (g : Good K F ρ σ H) (g' : Good K F' ρ' (L2.wipe σ ws) H') (s : Stp (L2.wipe σ ws) F (wipeR ρ ws) H F' ρ' H') : Good K F' (backR ρ ρ' ws) σ H' ∧ Stp σ F ρ H F' (backR ρ ρ' ws) H' := by
  have hl : ρ'.length = ρ.length := by
    rw [g'.len, wipe_length, g.len]
  have own1 : ∀ (i : Nat) xs, i ∉ ws → ρ'[i]? = some (.own xs) → ∃ ys, ρ[i]? = some (.own ys) := fun i xs n e => by
    obtain ⟨ys, e'⟩ := s.os i xs e
    rcases wipeR_get e' with ⟨_, z⟩ | ⟨_, z⟩
    · cases z
    · exact ⟨ys, z⟩
  have ownB : ∀ (i : Nat) xs, (backR ρ ρ' ws)[i]? = some (.own xs) → ∃ ys, ρ[i]? = some (.own ys) := fun i xs e => by
    rcases backR_get hl e with ⟨_, z⟩ | ⟨n, z⟩
    · exact ⟨xs, z⟩
    · exact own1 i xs n z
  refine ⟨⟨g'.sub, by rw [backR_len, hl]; exact g.len, fun i p e => ?_, fun i xs e => ?_, fun i j xs ys a e1 e2 e3 e4 => ?_⟩, ⟨s.ff, ownB, fun q o e n => s.kp q o e (notOwn_wipe n), fun q o e f n => s.nf q o e f (notOwn_wipe n), s.ex⟩⟩
  · rcases backR_get hl e with ⟨_, z⟩ | ⟨n, z⟩
    · obtain ⟨v, e1, e2⟩ := g.val i p z
      exact ⟨v, e1, Rep.mono s.ff _ _ e2⟩
    · obtain ⟨v, e1, e2⟩ := g'.val i p z
      rw [wipe_get n] at e1
      exact ⟨v, e1, e2⟩
  · rcases backR_get hl e with ⟨m, z⟩ | ⟨n, z⟩
    · obtain ⟨a, vs, e1, e2, e3, e4⟩ := g.own i xs z
      have no : NotOwn (wipeR ρ ws) (L2.wipe σ ws) a := fun j ys ej zj => by
        rcases wipeR_get ej with ⟨_, w⟩ | ⟨nj, w⟩
        · cases w
        · rw [wipe_get nj] at zj
          have := g.apart i j xs ys a z w e1 zj
          subst this
          exact nj m
      exact ⟨a, vs, e1, s.nf a _ e3 e2 no, s.kp a _ e3 no, Reps.mono s.ff _ _ e4⟩
    · obtain ⟨a, vs, e1, e2⟩ := g'.own i xs z
      rw [wipe_get n] at e1
      exact ⟨a, vs, e1, e2⟩
  · obtain ⟨zs, z1⟩ := ownB i xs e1
    obtain ⟨us, z2⟩ := ownB j ys e2
    exact g.apart i j zs us a z1 z2 e3 e4
/-- a cell that is nobody's is written -/
theorem Good.updD {D : Addr} {o : HO} (g : Good K F ρ σ H) (f : F D = none) (n : NotOwn ρ σ D) : Good K F ρ σ (upd H D o) := by
  refine ⟨fun b x e => ?_, g.len, g.val, fun i xs e => ?_, g.apart⟩
  · have nb : b ≠ D := fun z => by rw [z, f] at e; cases e
    rw [upd_ne nb]; exact g.sub b x e
  · obtain ⟨a, vs, e1, e2, e3, e4⟩ := g.own i xs e
    have nb : a ≠ D := fun z => n i xs e (by rw [e1, z])
    exact ⟨a, vs, e1, e2, by rw [upd_ne nb]; exact e3, e4⟩
end
def noX {α : Type} (r : Res α) : Res α := match r with
  | .exc _ _ => .bad
  | r => r
/-- the turns of a comprehension -/
def compL (g : MG) (t : MT) (elt : M) (ws : List Nat) : List PV → List PV → Rho → Res (List PV × Rho)
  | [], acc, ρ => .ok (acc, ρ)
  | p :: ps, acc, ρ => match g p ρ with
    | none => .bad
    | some ρ1 => match t ρ1 with
      | .ok (true, ρ2) => match elt ρ2 with
        | .ok (y, ρ3) => if acc.length < sizeLine then compL g t elt ws ps (acc ++ [y]) (wipeR ρ3 ws) else .bad
        | _ => .bad
      | .ok (false, ρ2) => compL g t elt ws ps acc (wipeR ρ2 ws)
      | _ => .bad
def mComp (mi : MI) (g : MG) (t : MT) (elt : M) (ws : List Nat) : MF := fun ρ => (mi ρ).bnd fun ps ρ1 => (noX (compL g t elt ws ps [] (wipeR ρ1 ws))).bnd fun ys ρ2 => .ok (ys, backR ρ1 ρ2 ws)
def mYes : MT := fun ρ => .ok (true, ρ)
section
variable {X : Cx} {W : WX} {pos : Pos}
/-- an expression, a target, a test in the block, whatever the block's own places are -/
def WEu (X : Cx) (scope : Scope) (e : Expr) : TE := fun σ H Q => ∀ (s : Shared) (H1 : Hp) (C : Addr) (cl : List (Str × Addr)) (fp : List Addr), WE (X.blk s H1 scope (compEnvC scope cl C X.env) fp) e σ H Q
def WGu (X : Cx) (scope : Scope) (tg : Expr) : TG := fun v σ H Q => ∀ (s : Shared) (H1 : Hp) (C : Addr) (cl : List (Str × Addr)) (fp : List Addr), WG (X.blk s H1 scope (compEnvC scope cl C X.env) fp) tg v σ H Q
def WTsu (X : Cx) (scope : Scope) (ifs : List Expr) : TT := fun σ H Q => ∀ (s : Shared) (H1 : Hp) (C : Addr) (cl : List (Str × Addr)) (fp : List Addr) (pins : List (Addr × Obj)) (s' : Shared), Inv (X.blk s H1 scope (compEnvC scope cl C X.env) fp) pins σ H s' →
  wpAny (model X.prog X.w) X.A (forIn ifs true fun c r => if r = true then do let ok ← isTrue c (compEnvC scope cl C X.env) (eval c (compEnvC scope cl C X.env)); pure (ForInStep.yield ok) else pure (ForInStep.yield r)) (TP (X.blk s H1 scope (compEnvC scope cl C X.env) fp) pins σ Q) (fun _ _ => False) s'
/-- the tests of a comprehension -/
def SndTs (X : Cx) (W : WX) (scope : Scope) (ifs : List Expr) (m : MT) : Prop :=
  ∀ (F : Hp) (ρ : Rho) (σ : St) (H : Hp) (Q : Bool → Hp → Prop), Good X.K F ρ σ H → Post repT X W0 F ρ σ H (m ρ) Q → WTsu X scope ifs σ H Q
theorem ts_nil {scope : Scope} : SndTs X W scope [] mYes := fun F ρ σ H Q g hp s H1 C cl fp pins s' I =>
  (pts_nil (X := X.blk s H1 scope (compEnvC scope cl C X.env) fp)).run pins s' σ H Q I (hp F H true Stp.refl g rfl)
theorem ts_one {scope : Scope} {c : Expr} {m : MT} (h : ∀ (s : Shared) (H : Hp) (C : Addr) (cl : List (Str × Addr)) (fp : List Addr), SndT (X.blk s H scope (compEnvC scope cl C X.env) fp) W0 c m) : SndTs X W scope [c] m := fun F ρ σ H Q g hp s H1 C cl fp pins s' I =>
  (pts_one (X := X.blk s H1 scope (compEnvC scope cl C X.env) fp) pt_wt).run pins s' σ H Q I (h s H1 C cl fp F ρ σ H Q g hp)
theorem wipe_idem {σ : St} {ws : List Nat} : wipe (wipe σ ws) ws = wipe σ ws := by
  have : ∀ (us : List Nat), (∀ u ∈ us, u ∈ ws) → wipe (wipe σ us) ws = wipe σ ws := by
    intro us
    induction us with
    | nil => intro _; rfl
    | cons u us ih =>
      intro h
      show wipe ((wipe σ us).set u none) ws = _
      rw [wipe_set (h u List.mem_cons_self)]
      exact ih fun v hv => h v (List.mem_cons_of_mem _ hv)
  exact this ws fun _ h => h
/-- what a comprehension's turns keep: D the new list -/
structure CompAt (K : PySem.W.Frag) (ws : List Nat) (F1 : Hp) (ρ1 : Rho) (H1 : Hp) (σ : St) (D : Addr) (acc : List PV) (ρ : Rho) (F H : Hp) : Prop where
  g : Good K F ρ σ H
  st : Stp σ F1 ρ1 H1 F ρ H
  hD : ∃ vs, H D = some (.lst vs) ∧ Reps K F acc vs
  fD : F D = none
  nD : NotOwn ρ σ D
  nw : ∀ i ∈ ws, ∀ xs, ρ[i]? ≠ some (.own xs)
theorem nw_wipe {ρ : Rho} {ws : List Nat} : ∀ i ∈ ws, ∀ xs, (wipeR ρ ws)[i]? ≠ some (.own xs) := fun i hi xs e => by
  rcases wipeR_get e with ⟨_, z⟩ | ⟨n, _⟩
  · cases z
  · exact n hi
/-- a turn's steps, seen from the block's own names forgotten -/
theorem Stp.turn {ws : List Nat} {σw σ2 : St} {F' F3 H' H3 : Hp} {ρ ρ2 ρ3 : Rho} (s : Stp σ2 F' ρ2 H' F3 ρ3 H3) (hw : wipe σ2 ws = σw) (ho : ∀ (i : Nat) xs, ρ2[i]? = some (.own xs) → ρ[i]? = some (.own xs)) (nw : ∀ i ∈ ws, ∀ xs, ρ[i]? ≠ some (.own xs)) :
    Stp σw F' ρ H' F3 (wipeR ρ3 ws) H3 ∧ ∀ q, NotOwn ρ σw q → NotOwn ρ2 σ2 q := by
  have no : ∀ q, NotOwn ρ σw q → NotOwn ρ2 σ2 q := fun q n i xs e z => by
    have e' := ho i xs e
    have hi : i ∉ ws := fun h => nw i h xs e'
    refine n i xs e' ?_
    rw [← hw, wipe_get hi]
    exact z
  refine ⟨⟨s.ff, fun i xs e => ?_, fun q o e n => s.kp q o e (no q n), fun q o e f n => s.nf q o e f (no q n), s.ex⟩, no⟩
  rcases wipeR_get e with ⟨_, z⟩ | ⟨_, z⟩
  · cases z
  · obtain ⟨ys, z2⟩ := s.os i xs z
    exact ⟨ys, ho i ys z2⟩
/-- what is left of the turns is wanted -/
def CompPost (K : PySem.W.Frag) (ws : List Nat) (F1 : Hp) (ρ1 : Rho) (H1 : Hp) (σ : St) (D : Addr) (Qd : Hp → Prop) (r : Res (List PV × Rho)) : Prop := match r with
  | .ok (ys, ρ2) => ∀ F2 H2, CompAt K ws F1 ρ1 H1 σ D ys ρ2 F2 H2 → Qd H2
  | _ => False
theorem comp_run {ws : List Nat} {tg : Expr} {ifs : List Expr} {elt : Expr} {scope : Scope} {mg : MG} {mt : MT} {me : M}
    (hg : ∀ (s : Shared) (H : Hp) (C : Addr) (cl : List (Str × Addr)) (fp : List Addr), SndG (X.blk s H scope (compEnvC scope cl C X.env) fp) none ws tg mg)
    (ht : SndTs X W scope ifs mt)
    (he : ∀ (s : Shared) (H : Hp) (C : Addr) (cl : List (Str × Addr)) (fp : List Addr), SndE (X.blk s H scope (compEnvC scope cl C X.env) fp) W0 elt me)
    {F1 H1 : Hp} {ρ1 : Rho} {σ : St} {J : It} {ps : List PV} {D : Addr} {Qd : Hp → Prop} (g1 : Good X.K F1 ρ1 σ H1) (r : IterOk X.K F1 J ps) (nD : H1 D = none)
    (hp : CompPost X.K ws F1 (wipeR ρ1 ws) H1 (wipe σ ws) D Qd (compL mg mt me ws ps [] (wipeR ρ1 ws))) :
    ∃ W : Nat → Nat → Hp → Prop, (∃ m, W 0 m (upd H1 D (.lst []))) ∧ ∀ i m H, W i m H →
      (J.stop i H ∧ Qd H) ∨ (J.go i H ∧ ∃ Nx : Hp → Prop, (∀ H', Nx H' → ∃ m', m' < m ∧ W (i + 1) m' H') ∧ ∀ x H', J.yld i H x H' → WGu X scope tg x (wipe σ ws) H' fun σ2 H2 => wipe σ2 ws = wipe σ ws ∧ WTsu X scope ifs σ2 H2 fun b H3 =>
        if b = true then WEu X scope elt σ2 H3 fun y H4 => ∃ acc, H4 D = some (.lst acc) ∧ acc.length < sizeLine ∧ Nx (upd H4 D (.lst (acc ++ [y]))) else Nx H3) := by
  obtain ⟨G, Y, wk, hG, hY⟩ := r.ex
  refine lc_it wk (fun i H => ∃ F ρ acc, CompAt X.K ws F1 (wipeR ρ1 ws) H1 (wipe σ ws) D acc ρ F H ∧ CompPost X.K ws F1 (wipeR ρ1 ws) H1 (wipe σ ws) D Qd (compL mg mt me ws (ps.drop i) acc ρ)) ?_ ?_ ?_ ?_
  · refine ⟨F1, wipeR ρ1 ws, [], ⟨g1.wipe.lay nD, Stp.lay nD, ⟨[], upd_same, Reps.nil⟩, g1.fnone nD, fun i xs e z => ?_, nw_wipe⟩, hp⟩
    obtain ⟨a, vs, e1, e2, e3, e4⟩ := g1.wipe.own i xs e
    rw [e1] at z
    cases z
    rw [nD] at e3
    cases e3
  · rintro i H _ ⟨F, ρ, acc, A, _⟩
    exact hG H (A.st.ff.trans A.g.sub)
  · rintro i x H H' hi ⟨F, ρ, acc, A, hp⟩ y
    obtain ⟨p, ep⟩ : ∃ p, ps[i]? = some p := ⟨_, List.getElem?_eq_getElem hi⟩
    have ed : ps.drop i = p :: ps.drop (i + 1) := by
      have h1 := List.getElem?_eq_some_iff.mp ep
      rw [List.drop_eq_getElem_cons hi, h1.2]
    rw [ed, compL] at hp
    generalize ps.drop (i + 1) = rest at hp ⊢
    have main : ∀ F' H', CompAt X.K ws F1 (wipeR ρ1 ws) H1 (wipe σ ws) D acc ρ F' H' → Rep X.K F' p x → WGu X scope tg x (wipe σ ws) H' fun σ2 H2 => wipe σ2 ws = wipe σ ws ∧ WTsu X scope ifs σ2 H2 fun b H3 =>
        if b = true then WEu X scope elt σ2 H3 fun y H4 => ∃ acc, H4 D = some (.lst acc) ∧ acc.length < sizeLine ∧ ∃ F ρ acc', CompAt X.K ws F1 (wipeR ρ1 ws) H1 (wipe σ ws) D acc' ρ F (upd H4 D (.lst (acc ++ [y]))) ∧ CompPost X.K ws F1 (wipeR ρ1 ws) H1 (wipe σ ws) D Qd (compL mg mt me ws rest acc' ρ)
        else ∃ F ρ acc', CompAt X.K ws F1 (wipeR ρ1 ws) H1 (wipe σ ws) D acc' ρ F H3 ∧ CompPost X.K ws F1 (wipeR ρ1 ws) H1 (wipe σ ws) D Qd (compL mg mt me ws rest acc' ρ) := fun F' H' A rp => by
      cases eg : mg p ρ with
      | none => rw [eg] at hp; exact hp.elim
      | some ρ2 =>
        rw [eg] at hp
        simp only at hp
        intro s0 H0 C cl fp
        have fr : Fr0 (fun _ => none) (fun _ => none) none ρ (wipe σ ws) F' H' := ⟨fun _ _ z => (nomatch z), fun _ _ _ z => (nomatch z), fun _ _ _ z => (nomatch z), fun _ _ _ _ _ => .inl rfl, fun _ z => (nomatch z), fun _ _ => rfl⟩
        refine hg s0 H0 C cl fp _ _ F' ρ (wipe σ ws) H' p x ρ2 _ fr A.g rp eg fun σ2 hw ho _ g2 => ?_
        rw [wipe_idem] at hw
        refine ⟨hw, ?_⟩
        obtain ⟨vs, hvs, rvs⟩ := A.hD
        refine ht F' ρ2 σ2 H' _ g2 ?_
        cases et : mt ρ2 with
        | bad => rw [et] at hp; exact hp.elim
        | exc e r => rw [et] at hp; exact hp.elim
        | ok z =>
          obtain ⟨k, ρ3⟩ := z
          rw [et] at hp
          intro F3 H3 v st3 g3 ev
          cases (show k = v from ev)
          cases k with
          | false =>
            rw [if_neg (by decide)]
            obtain ⟨st', no⟩ := Stp.turn st3 hw ho A.nw
            have nD2 : NotOwn ρ2 σ2 D := no D A.nD
            have gw : Good X.K F3 (wipeR ρ3 ws) (wipe σ ws) H3 := by
              have := g3.wipe (ws := ws)
              rw [hw] at this
              exact this
            refine ⟨F3, wipeR ρ3 ws, acc, ⟨gw, A.st.trans st', ⟨vs, st3.kp D _ hvs nD2, Reps.mono st3.ff _ _ rvs⟩, st3.nf D _ hvs A.fD nD2, ?_, nw_wipe⟩, hp⟩
            have := notOwn_wipe (ws := ws) (nD2.sub st3.os)
            rw [hw] at this
            exact this
          | true =>
            rw [if_pos rfl]
            intro s0 H0 C cl fp
            refine he s0 H0 C cl fp F3 ρ3 σ2 H3 _ g3 ?_
            simp only at hp
            cases ee : me ρ3 with
            | bad => rw [ee] at hp; exact hp.elim
            | exc e r => rw [ee] at hp; exact hp.elim
            | ok z =>
              obtain ⟨y, ρ4⟩ := z
              rw [ee] at hp
              simp only at hp
              intro F4 H4 w st4 g4 rw'
              split at hp
              · rename_i hl
                have st34 := st3.trans st4
                obtain ⟨st', no⟩ := Stp.turn st34 hw ho A.nw
                have nD2 : NotOwn ρ2 σ2 D := no D A.nD
                have hD4 := st34.kp D _ hvs nD2
                have fD4 := st34.nf D _ hvs A.fD nD2
                have nD4 : NotOwn (wipeR ρ4 ws) (wipe σ ws) D := by
                  have := notOwn_wipe (ws := ws) (nD2.sub st34.os)
                  rw [hw] at this
                  exact this
                have gw : Good X.K F4 (wipeR ρ4 ws) (wipe σ ws) H4 := by
                  have := g4.wipe (ws := ws)
                  rw [hw] at this
                  exact this
                have stA := A.st.trans st'
                refine ⟨vs, hD4, by rw [← rvs.length]; exact hl, F4, wipeR ρ4 ws, acc ++ [y], ⟨gw.updD fD4 nD4, ⟨stA.ff, stA.os, fun q o e n => ?_, stA.nf, fun q e => ?_⟩, ⟨_, upd_same, (Reps.mono st34.ff _ _ rvs).append (Reps.cons rw' Reps.nil)⟩, fD4, nD4, nw_wipe⟩, hp⟩
                · rw [upd_ne (ne_of_none e nD)]; exact stA.kp q o e n
                · by_cases z : q = D
                  · rw [z]; exact nD
                  · rw [upd_ne z] at e; exact stA.ex q e
              · exact hp.elim
    rcases hY i p F H x H' ep A.st.ff A.g.sub y with ⟨rfl, rp⟩ | ⟨T, o, hT, rfl, rp⟩
    · exact main F H' A rp
    · obtain ⟨vs, hvs, rvs⟩ := A.hD
      have nT : D ≠ T := ne_of_none hvs hT
      have sF : Same F (L2.upd F T o) := Same.upd (A.g.fnone hT)
      exact main (L2.upd F T o) _ ⟨A.g.alloc hT, A.st.trans (Stp.alloc A.g hT), ⟨vs, by rw [upd_ne nT]; exact hvs, Reps.mono sF _ _ rvs⟩, by rw [upd_ne nT]; exact A.fD, A.nD, A.nw⟩ rp
  · rintro H ⟨F, ρ, acc, A, hp⟩
    rw [List.drop_of_length_le (Nat.le_refl _)] at hp
    exact hp F H A
theorem comp_tLc {ws : List Nat} {tg iter : Expr} {ifs : List Expr} {elt : Expr} {scope : Scope} {mi : MI} {mg : MG} {mt : MT} {me : M}
    (hi : SndI X W tg iter mi)
    (hg : ∀ (s : Shared) (H : Hp) (C : Addr) (cl : List (Str × Addr)) (fp : List Addr), SndG (X.blk s H scope (compEnvC scope cl C X.env) fp) none ws tg mg)
    (ht : SndTs X W scope ifs mt)
    (he : ∀ (s : Shared) (H : Hp) (C : Addr) (cl : List (Str × Addr)) (fp : List Addr), SndE (X.blk s H scope (compEnvC scope cl C X.env) fp) W0 elt me)
    {F H : Hp} {ρ : Rho} {σ : St} {Q : VK} (g : Good X.K F ρ σ H) (hp : Post (repF X.K σ) X W F ρ σ H (mComp mi mg mt me ws ρ) Q) :
    tLc (WI X tg iter) (WGu X scope tg) (WTsu X scope ifs) (WEu X scope elt) ws σ H Q := by
  refine hi F ρ σ H _ g (Post.bind hp fun F1 ρ1 H1 ps J st g1 r hp1 => ?_)
  intro D nD
  refine comp_run hg ht he g1 r nD ?_
  cases ec : compL mg mt me ws ps [] (wipeR ρ1 ws) with
  | bad => rw [ec] at hp1; exact hp1.elim
  | exc x r => rw [ec] at hp1; exact hp1.elim
  | ok z =>
    obtain ⟨ys, ρ2⟩ := z
    rw [ec] at hp1
    intro F2 H2 A
    obtain ⟨g', st'⟩ := g1.unwipe A.g A.st
    obtain ⟨vs, hvs, rvs⟩ := A.hD
    refine hp1 F2 H2 (.ref D) st' g' ⟨D, vs, rfl, nD, A.fD, fun i xs e z => ?_, hvs, rvs⟩
    obtain ⟨zs, e1⟩ := st'.os i xs e
    obtain ⟨a, ws', e2, e3, e4, e5⟩ := g1.own i zs e1
    rw [e2] at z
    cases z
    rw [nD] at e4
    cases e4
section
variable {ws : List Nat} {tg iter : Expr} {ifs : List Expr} {elt : Expr} {scope : Scope} {own : List (Str × Nat)} {mi : MI} {mg : MG} {mt : MT} {me : M}
theorem f_comp (c : Ctx X W) (hi : SndI X W tg iter mi) (ok : BlkOk X.N X.env.scope scope own)
    (hg : ∀ (s : Shared) (H : Hp) (C : Addr) (cl : List (Str × Addr)) (fp : List Addr), SndG (X.blk s H scope (compEnvC scope cl C X.env) fp) none (own.map (·.2)) tg mg)
    (ht : SndTs X W scope ifs mt)
    (he : ∀ (s : Shared) (H : Hp) (C : Addr) (cl : List (Str × Addr)) (fp : List Addr), SndE (X.blk s H scope (compEnvC scope cl C X.env) fp) W0 elt me) (hs : ∀ x, foldedSetIterable iter X.env x = pure x := by intro _; rfl) :
    SndF X W (.ListComp elt [⟨tg, iter, ifs, 0⟩] scope pos) (mComp mi mg mt me (own.map (·.2))) := fun F ρ σ H Q g hp => by
  refine we_of (pe_lc (own := own) (g := WGu X scope tg) (tt := WTsu X scope ifs) (te := WEu X scope elt) c.calm c.nd pi_wi ok (fun s H C cl fp => ⟨fun pins s' σ H1 v u Q I r h => pg_wg.run pins s' σ H1 v u Q I r (h s H C cl fp)⟩) (fun s H C cl fp => ⟨fun pins s' σ H' Q I h => h s H C cl fp pins s' I⟩) (fun s H C cl fp => ⟨fun pins s' σ H' Q I h => pe_we.run pins s' σ H' Q I (h s H C cl fp)⟩) hs) ?_
  exact comp_tLc hi hg ht he g hp
theorem s_comp (c : Ctx X W) (hi : SndI X W tg iter mi) (ok : BlkOk X.N X.env.scope scope own)
    (hg : ∀ (s : Shared) (H : Hp) (C : Addr) (cl : List (Str × Addr)) (fp : List Addr), SndG (X.blk s H scope (compEnvC scope cl C X.env) fp) none (own.map (·.2)) tg mg)
    (ht : SndTs X W scope ifs mt)
    (he : ∀ (s : Shared) (H : Hp) (C : Addr) (cl : List (Str × Addr)) (fp : List Addr), SndE (X.blk s H scope (compEnvC scope cl C X.env) fp) W0 elt me) (hs : ∀ x, foldedSetIterable iter X.env x = pure x := by intro _; rfl) :
    SndE X W (.ListComp elt [⟨tg, iter, ifs, 0⟩] scope pos) (mFrz (mComp mi mg mt me (own.map (·.2)))) := (f_comp c hi ok hg ht he hs).snd
/-- name = [..] on one line, the name a local -/
theorem st_comp {b : Option Addr} {i : Nat} {y : Str} {py spos : Pos} (c : Ctx X W) (hy : X.N[i]? = some y) (hyl : X.env.scope.names.lookup y = some .local)
    (hsw : swapsWith (.ListComp elt [⟨tg, iter, ifs, 0⟩] scope pos) (some (.Name y py)) spos.line X.env = pure true) (hi : SndI X W tg iter mi) (ok : BlkOk X.N X.env.scope scope own)
    (hg : ∀ (s : Shared) (H : Hp) (C : Addr) (cl : List (Str × Addr)) (fp : List Addr), SndG (X.blk s H scope (compEnvC scope cl C X.env) fp) none (own.map (·.2)) tg mg)
    (ht : SndTs X W scope ifs mt)
    (he : ∀ (s : Shared) (H : Hp) (C : Addr) (cl : List (Str × Addr)) (fp : List Addr), SndE (X.blk s H scope (compEnvC scope cl C X.env) fp) W0 elt me) (hb : b = none ∨ i ≠ 0) (hs : ∀ x, foldedSetIterable iter X.env x = pure x := by intro _; rfl) :
    SndS X W b (.Assign [.Name y py] (.ListComp elt [⟨tg, iter, ifs, 0⟩] scope pos) spos) (mSetF i (mComp mi mg mt me (own.map (·.2)))) := fun H0 F0 F ρ σ H D f g hp => by
  refine ws_of (ps_setLc (own := own) (g := WGu X scope tg) (tt := WTsu X scope ifs) (te := WEu X scope elt) c.calm c.nd hy hyl hsw pi_wi ok (fun s H C cl fp => ⟨fun pins s' σ H1 v u Q I r h => pg_wg.run pins s' σ H1 v u Q I r (h s H C cl fp)⟩) (fun s H C cl fp => ⟨fun pins s' σ H' Q I h => h s H C cl fp pins s' I⟩) (fun s H C cl fp => ⟨fun pins s' σ H' Q I h => pe_we.run pins s' σ H' Q I (h s H C cl fp)⟩) hs) ?_
  refine comp_tLc hi hg ht he g (Post.sr f hp fun F1 ρ1 H1 p v _ f1 g1 r hp1 => ?_)
  obtain ⟨a, vs, rfl, hn, fa, no, ha, rv⟩ := r
  exact hp1 F1 _ H1 (f1.setOwn hb (f.ex a hn)) (g1.setOwn fa no ha rv)
end
end
/-! ### a def by its body's mirror -/
def startR (N : List Str) (ps : List PV) : Rho := ps.map .val ++ List.replicate (N.length - ps.length) .emp
def runP (N : List Str) (m : MS) : FP := fun ps => match m (startR N ps) with
  | .nx _ => .ok .non
  | .rt p _ => .ok p
  | .exc x _ => .exc x
  | _ => .bad
def runF (N : List Str) (m : MS) : FF := fun ps => match m (startR N ps) with
  | .rf xs _ => .ok xs
  | .exc x _ => .exc x
  | _ => .bad
def own0 : Rho → Option (List PV)
  | .own ys :: _ => some ys
  | _ => none
theorem own0_get {ρ : Rho} {ys : List PV} (h : own0 ρ = some ys) : ρ[0]? = some (.own ys) := by
  unfold own0 at h
  split at h
  · cases h; rfl
  · cases h
def runB (N : List Str) (m : MS) : FB := fun xs ps => match m (.own xs :: startR (N.drop 1) ps) with
  | .nx ρ => match own0 ρ with
    | some ys => .ok .non ys
    | none => .bad
  | .rt p ρ => match own0 ρ with
    | some ys => .ok p ys
    | none => .bad
  | .exc x ρ => match own0 ρ with
    | some ys => .exc x ys
    | none => .bad
  | _ => .bad
theorem start_good {K : PySem.W.Frag} {F H : Hp} {N : List Str} {ps : List PV} {vs : List V} (s : Same F H) (r : Reps K F ps vs) (hl : vs.length ≤ N.length) : Good K F (startR N ps) (L2.start N vs) H := by
  have len := r.length
  have notOwn : ∀ (i : Nat) xs, (startR N ps)[i]? ≠ some (.own xs) := fun i xs e => by
    unfold startR at e
    by_cases hi : i < (ps.map Slot.val).length
    · rw [List.getElem?_append_left hi, List.getElem?_map] at e
      cases h : ps[i]? with
      | none => rw [h] at e; cases e
      | some p => rw [h] at e; cases e
    · rw [List.getElem?_append_right (by omega), List.getElem?_replicate] at e
      split at e <;> cases e
  refine ⟨s, ?_, fun i p e => ?_, fun i xs e => absurd e (notOwn i xs), fun i j xs ys a e1 => absurd e1 (notOwn i xs)⟩
  · unfold startR L2.start
    simp [len]
  · unfold startR at e
    by_cases hi : i < (ps.map Slot.val).length
    · rw [List.getElem?_append_left hi, List.getElem?_map] at e
      cases h : ps[i]? with
      | none => rw [h] at e; cases e
      | some q =>
        rw [h] at e
        cases e
        obtain ⟨v, ev, rv⟩ := r.get h
        refine ⟨v, ?_, rv⟩
        unfold L2.start
        rw [List.getElem?_append_left (by rw [List.length_map] at hi ⊢; omega), List.getElem?_map, ev]
        rfl
    · rw [List.getElem?_append_right (by omega), List.getElem?_replicate] at e
      split at e <;> cases e
theorem startR_notOwn {N : List Str} {qs : List PV} {i : Nat} {xs : List PV} (e : (startR N qs)[i]? = some (.own xs)) : False := by
  unfold startR at e
  by_cases hi : i < (qs.map Slot.val).length
  · rw [List.getElem?_append_left hi, List.getElem?_map] at e
    cases h : qs[i]? with
    | none => rw [h] at e; cases e
    | some p => rw [h] at e; cases e
  · rw [List.getElem?_append_right (by omega), List.getElem?_replicate] at e
    split at e <;> cases e
section
variable {P : Program} {w : World} {K : PySem.W.Frag} {mg : Str → Option Value} {base : Heap}
variable {x qual : Str} {st : Stmt} {f : Addr} {fd : FuncData} {N ps : List Str} {k : Nat}
/-- the context of a def's body -/
abbrev bodyX (P : Program) (w : World) (K : PySem.W.Frag) (mg : Str → Option Value) (base : Heap) (N : List Str) (qual : Str) (st : Stmt) (f : Addr) (cdv : Value) (A : Around) (outer : List Env) (s : Shared) (H : Hp) (E : XK) : Cx := cxOf (L2.CX P w) P w K mg base N qual (defScope st) f cdv A outer s H E
theorem body_ctx {cdv : Value} {A : Around} {outer : List Env} {s : Shared} {H : Hp} {E : XK} (nd : N.Nodup) (hr : Room k (A.deeper (PyProof.Rows.envOfC qual (defScope st) s.heap.objs.size f cdv))) : Ctx (bodyX P w K mg base N qual st f cdv A outer s H E) (fun cls d _ H => E cls d H) :=
  ⟨takes_of rfl rfl rfl rfl, passes_of rfl, rfl, nd, hr.units⟩
theorem fn_pure {m : MS} (F : Fun K x qual st f fd) (S : FnScope N ps (defScope st)) (hN : ps.length ≤ N.length)
    (hbody : ∀ (cdv : Value) (A : Around) (outer : List Env) (s : Shared) (H : Hp) (E : XK), Room k (bodyX P w K mg base N qual st f cdv A outer s H E).A → Ctx (bodyX P w K mg base N qual st f cdv A outer s H E) (fun cls d _ H => E cls d H) →
      SndSs (bodyX P w K mg base N qual st f cdv A outer s H E) (fun cls d _ H => E cls d H) none (defBody st) m) :
    FnOk P w K mg base (L2.CX P w) (k + 1) f fd ps (spP K mg ps.length (runP N m)) := by
  refine F.okX S (fun vs H Q E h => h.1) fun cdv A outer s H vs Q E hr h => ?_
  obtain ⟨hl, F0, qs, sF, rq, h⟩ := h
  refine ⟨_, pss_wss, ?_⟩
  refine hbody cdv A outer s H E hr (body_ctx S.nd hr) H F0 F0 (startR N qs) (L2.start N vs) H _ ⟨Same.refl _, fun _ _ _ e => e, fun _ _ _ _ n => n, fun i xs a e z => (startR_notOwn e).elim, fun _ z => (nomatch z), fun _ e => e⟩ (start_good sF rq (by omega)) ?_
  · unfold runP at h
    have fin : ∀ {F' H' : Hp} {ρ' : Rho} {σ' : St}, Fr0 H F0 none ρ' σ' F' H' → Same H H' ∧ NewF H F0 F' := fun fr => ⟨fun q o e => fr.keep q o (by simp) e, fun q o e n => fr.nf q o (by simp) e n⟩
    cases e : m (startR N qs) with
    | nx ρ' => rw [e] at h; exact fun F' σ' H' fr g => h F' H' _ fr.ff g.sub (fin fr).1 (fin fr).2 Rep.non
    | rt p ρ' => rw [e] at h; exact fun F' σ' H' v fr g r => h F' H' v fr.ff g.sub (fin fr).1 (fin fr).2 r
    | exc y ρ' => rw [e] at h; exact fun F' σ' H' cls d fr g r => h F' H' cls d fr.ff g.sub (fin fr).1 (fin fr).2 r
    | rf p ρ' => rw [e] at h; exact h.elim
    | bk ρ' => rw [e] at h; exact h.elim
    | ct ρ' => rw [e] at h; exact h.elim
    | bad => rw [e] at h; exact h.elim
theorem fn_fresh {m : MS} (F : Fun K x qual st f fd) (S : FnScope N ps (defScope st)) (hN : ps.length ≤ N.length)
    (hbody : ∀ (cdv : Value) (A : Around) (outer : List Env) (s : Shared) (H : Hp) (E : XK), Room k (bodyX P w K mg base N qual st f cdv A outer s H E).A → Ctx (bodyX P w K mg base N qual st f cdv A outer s H E) (fun cls d _ H => E cls d H) →
      SndSs (bodyX P w K mg base N qual st f cdv A outer s H E) (fun cls d _ H => E cls d H) none (defBody st) m) :
    FnOk P w K mg base (L2.CX P w) (k + 1) f fd ps (spF K mg ps.length (runF N m)) := by
  refine F.okX S (fun vs H Q E h => h.1) fun cdv A outer s H vs Q E hr h => ?_
  obtain ⟨hl, F0, qs, sF, rq, h⟩ := h
  refine ⟨_, pss_wss, ?_⟩
  refine hbody cdv A outer s H E hr (body_ctx S.nd hr) H F0 F0 (startR N qs) (L2.start N vs) H _ ⟨Same.refl _, fun _ _ _ e => e, fun _ _ _ _ n => n, fun i xs a e z => (startR_notOwn e).elim, fun _ z => (nomatch z), fun _ e => e⟩ (start_good sF rq (by omega)) ?_
  unfold runF at h
  have fin : ∀ {F' H' : Hp} {ρ' : Rho} {σ' : St}, Fr0 H F0 none ρ' σ' F' H' → Same H H' ∧ NewF H F0 F' := fun fr => ⟨fun q o e => fr.keep q o (by simp) e, fun q o e n => fr.nf q o (by simp) e n⟩
  cases e : m (startR N qs) with
  | nx ρ' => rw [e] at h; exact h.elim
  | rt p ρ' => rw [e] at h; exact h.elim
  | exc y ρ' => rw [e] at h; exact fun F' σ' H' cls d fr g r => h F' H' cls d fr.ff g.sub (fin fr).1 (fin fr).2 r
  | rf p ρ' =>
    rw [e] at h
    intro F' σ' H' v fr g r
    obtain ⟨a, ws, rfl, hn, fa, no, ha, rv⟩ := r
    exact h F' H' a ws fr.ff g.sub (fin fr).1 (fin fr).2 hn fa ha rv
  | bk ρ' => rw [e] at h; exact h.elim
  | ct ρ' => rw [e] at h; exact h.elim
  | bad => rw [e] at h; exact h.elim
theorem fn_box {m0 : MS} {p0 : Str} {ps' : List Str} (hps : ps = p0 :: ps') (F : Fun K x qual st f fd) (S : FnScope N ps (defScope st)) (hN : ps.length ≤ N.length)
    (hbody : ∀ (b : Addr) (cdv : Value) (A : Around) (outer : List Env) (s : Shared) (H : Hp) (E : XK), Room k (bodyX P w K mg base N qual st f cdv A outer s H E).A → Ctx (bodyX P w K mg base N qual st f cdv A outer s H E) (fun cls d _ H => E cls d H) →
      SndSs (bodyX P w K mg base N qual st f cdv A outer s H E) (fun cls d _ H => E cls d H) (some b) (defBody st) m0) :
    FnOk P w K mg base (L2.CX P w) (k + 1) f fd ps (spB K mg ps'.length (runB N m0)) := by
  have hpl : ps.length = ps'.length + 1 := by rw [hps]; rfl
  refine F.okX S (fun vs H Q E h => by rw [hpl]; exact h.1) fun cdv A outer s H vs Q E hr h => ?_
  obtain ⟨hl, F0, b, bs, xs, qs, rest, rfl, sF, fb, hb, rb, rq, h⟩ := h
  refine ⟨_, pss_wss, ?_⟩
  have hNl : (N.drop 1).length = N.length - 1 := List.length_drop
  have hrl : rest.length = ps'.length := by simpa using hl
  have g0 := start_good (N := N.drop 1) sF rq (by omega)
  have es : L2.start N (.ref b :: rest) = some (.ref b) :: L2.start (N.drop 1) rest := by
    unfold L2.start
    have : N.length - (V.ref b :: rest).length = (N.drop 1).length - rest.length := by rw [List.length_cons]; omega
    rw [this]; rfl
  have gd : Good K F0 (.own xs :: startR (N.drop 1) qs) (L2.start N (.ref b :: rest)) H := by
    rw [es]
    refine ⟨sF, by rw [List.length_cons, List.length_cons, g0.len], fun i p e => ?_, fun i ys e => ?_, fun i j ys zs a e1 e2 e3 e4 => ?_⟩
    · cases i with
      | zero => simp at e
      | succ i => exact g0.val i p (by simpa using e)
    · cases i with
      | zero =>
        simp at e
        subst e
        exact ⟨b, bs, rfl, fb, hb, rb⟩
      | succ i => exact (startR_notOwn (by simpa using e)).elim
    · cases i with
      | zero =>
        cases j with
        | zero => rfl
        | succ j => exact (startR_notOwn (by simpa using e2)).elim
      | succ i => exact (startR_notOwn (by simpa using e1)).elim
  refine hbody b cdv A outer s H E hr (body_ctx S.nd hr) H F0 F0 (.own xs :: startR (N.drop 1) qs) (L2.start N (.ref b :: rest)) H _ ⟨Same.refl _, fun _ _ _ e => e, fun _ _ _ _ n => n, fun i ys a e z => ?_, fun a z => ?_, fun _ e => e⟩ gd ?_
  · cases i with
    | zero =>
      rw [es] at z
      simp at z
      subst z
      exact .inr rfl
    | succ i => exact (startR_notOwn (by simpa using e)).elim
  · cases z; rw [es]; rfl
  · unfold runB at h
    have fin : ∀ {F' H' : Hp} {ρ' : Rho} {σ' : St} {ys : List PV}, Fr0 H F0 (some b) ρ' σ' F' H' → Good K F' ρ' σ' H' → own0 ρ' = some ys → SameBut b H H' ∧ NewFB b H F0 F' ∧ ∃ bs', F' b = none ∧ H' b = some (.lst bs') ∧ Reps K F' ys bs' := fun {F' H' ρ' σ' ys} fr g e => by
      refine ⟨fun q o n e => fr.keep q o (by intro z; cases z; exact n rfl) e, fun q o n e f => fr.nf q o (by intro z; cases z; exact n rfl) e f, ?_⟩
      obtain ⟨a, vs, e1, e2, e3, e4⟩ := g.own 0 ys (own0_get e)
      have := fr.io b rfl
      rw [e1] at this
      cases this
      exact ⟨vs, e2, e3, e4⟩
    cases e : m0 (.own xs :: startR (N.drop 1) qs) with
    | nx ρ' =>
      rw [e] at h
      cases eo : own0 ρ' with
      | none => simp only [eo] at h
      | some ys =>
        simp only [eo] at h
        intro F' σ' H' fr g
        obtain ⟨a1, a2, bs', a3, a4, a5⟩ := fin fr g eo
        exact h F' H' _ bs' fr.ff g.sub a3 a4 a5 a1 a2 Rep.non
    | rt p ρ' =>
      rw [e] at h
      cases eo : own0 ρ' with
      | none => simp only [eo] at h
      | some ys =>
        simp only [eo] at h
        intro F' σ' H' v fr g r
        obtain ⟨a1, a2, bs', a3, a4, a5⟩ := fin fr g eo
        exact h F' H' v bs' fr.ff g.sub a3 a4 a5 a1 a2 r
    | exc y ρ' =>
      rw [e] at h
      cases eo : own0 ρ' with
      | none => simp only [eo] at h
      | some ys =>
        simp only [eo] at h
        intro F' σ' H' cls d fr g r
        obtain ⟨a1, a2, bs', a3, a4, a5⟩ := fin fr g eo
        exact h F' H' cls d bs' fr.ff g.sub a3 a4 a5 a1 a2 r
    | rf p ρ' => rw [e] at h; exact h.elim
    | bk ρ' => rw [e] at h; exact h.elim
    | ct ρ' => rw [e] at h; exact h.elim
    | bad => rw [e] at h; exact h.elim
end
end Ev

set_option Elab.async false
set_option linter.all false
set_option maxRecDepth 100000
namespace Ev
open PySem L2
section
variable {X : Cx} {W : WX} {b : Option Addr} {pos : Pos}
/-! a + b of lists, a new list of one's own -/
def pvCat : PV → PV → Option (List PV)
  | .lst xs, .lst ys => if xs.length + ys.length ≤ sizeLine then some (xs ++ ys) else none
  | _, _ => none
def mCat (a c : M) : MF := fun ρ => (a ρ).bnd fun p ρ1 => (c ρ1).bnd fun q ρ2 => Res.of (pvCat p q) ρ2
theorem f_cat {a c : Expr} {ma mc : M} (ha : SndE X W a ma) (hc : SndE X W c mc) : SndF X W (.BinOp a .Add c pos) (mCat ma mc) := fun F ρ σ H Q g hp => by
  refine we_of (pe_op op_cat pe_we pe_we) ?_
  refine ha.then g hp fun F1 ρ1 H1 p x _ g1 rp hp1 => ?_
  refine hc.then g1 hp1 fun F2 ρ2 H2 q y st2 g2 rq hp2 => ?_
  obtain ⟨z, ez⟩ := hp2.some
  rw [ez] at hp2
  unfold pvCat at ez
  split at ez
  · split at ez
    · rename_i xs ys hl
      cases ez
      have rp' := Rep.mono st2.ff _ _ rp
      unfold Rep at rp' rq
      obtain ⟨a1, vs, rfl, h1, h2⟩ := rp'
      obtain ⟨b1, ws, rfl, h3, h4⟩ := rq
      rw [h2.length, h4.length] at hl
      exact ⟨a1, b1, vs, ws, rfl, rfl, g2.sub _ _ h1, g2.sub _ _ h3, hl, Post.newF g2 hp2 (h2.append h4)⟩
    · cases ez
  · cases ez
/-! [..] * n, a new list of one's own -/
def pvRepL : PV → PV → Option (List PV)
  | .lst xs, .int k => if -(2 ^ 63) ≤ k ∧ k < 2 ^ 63 ∧ xs.length * k.toNat ≤ sizeLine then some (List.replicate k.toNat xs).flatten else none
  | _, _ => none
def mRepL (a c : M) : MF := fun ρ => (a ρ).bnd fun p ρ1 => (c ρ1).bnd fun q ρ2 => Res.of (pvRepL p q) ρ2
theorem f_rep {a c : Expr} {ma mc : M} (ha : SndE X W a ma) (hc : SndE X W c mc) : SndF X W (.BinOp a .Mult c pos) (mRepL ma mc) := fun F ρ σ H Q g hp => by
  refine we_of (pe_op op_rep pe_we pe_we) ?_
  refine ha.then g hp fun F1 ρ1 H1 p x _ g1 rp hp1 => ?_
  refine hc.then g1 hp1 fun F2 ρ2 H2 q y st2 g2 rq hp2 => ?_
  obtain ⟨z, ez⟩ := hp2.some
  rw [ez] at hp2
  unfold pvRepL at ez
  split at ez
  · split at ez
    · rename_i xs k h
      cases ez
      have rp' := Rep.mono st2.ff _ _ rp
      unfold Rep at rp' rq
      obtain ⟨a1, vs, rfl, h1, h2⟩ := rp'
      exact ⟨a1, k, vs, rfl, rq, g2.sub _ _ h1, h.1, h.2.1, by rw [← h2.length]; exact h.2.2, Post.newF g2 hp2 (h2.rep _)⟩
    · cases ez
  · cases ez
/-! l.index(x) -/
def findIx (d : PyData) : List PyData → Nat → Option Nat
  | [], _ => none
  | z :: zs, k => if PyData.eqv z d = true then some k else findIx d zs (k + 1)
theorem findIx_spec (d : PyData) : ∀ (zs : List PyData) (k j : Nat), findIx d zs k = some j → ∃ i, j = k + i ∧ (∃ z, zs[i]? = some z ∧ PyData.eqv z d = true) ∧ ∀ m z', m < i → zs[m]? = some z' → PyData.eqv z' d = false
  | [], k, j, h => by cases h
  | z :: zs, k, j, h => by
    unfold findIx at h
    split at h
    · rename_i e
      cases h
      exact ⟨0, rfl, ⟨z, rfl, e⟩, fun m z' hm => by omega⟩
    · rename_i e
      obtain ⟨i, rfl, ⟨y, hy, ey⟩, hno⟩ := findIx_spec d zs (k + 1) j h
      refine ⟨i + 1, by omega, ⟨y, by simpa using hy, ey⟩, fun m z' hm hz => ?_⟩
      cases m with
      | zero => simp at hz; subst hz; simpa using e
      | succ m => exact hno m z' (by omega) (by simpa using hz)
def pvIndex (xs : List PV) (q : PV) : Option PV := if okD 12 (.lst xs) && okD 12 q then (findIx (pvD q) (pvDs xs) 0).map fun j => .int (j : Nat) else none
def mIndex (a e : M) : M := fun ρ => (a ρ).bnd fun p ρ1 => match p with
  | .lst xs => (e ρ1).bnd fun q ρ2 => Res.of (pvIndex xs q) ρ2
  | _ => .bad
theorem s_index {a e : Expr} {ma me : M} {apos cpos : Pos} (hu : X.A.units + 65 < cLine) (ha : SndE X W a ma) (he : SndE X W e me)
    (hbase : attributeBase a "index" X.env (eval a X.env) = eval a X.env := by rfl)
    (hfew : ((backTo cpos (starEach [e] X.env)).all (fun x => !x.1) && (backToKw cpos (keywordEach [] X.env)).all (fun x => x.1.isSome)
      && decide (([e] : List Expr).length + ([] : List Keyword).length + (if ([] : List Keyword).isEmpty then 0 else 1) < 30)) = true := by rfl)
    (hline : (apos.endLine == cpos.line) = true := by rfl) (hs : starEach [e] X.env = [(false, eval e X.env)] := by rfl) :
    SndE X W (.Call (.Attribute a "index" apos) [e] [] cpos) (mIndex ma me) := fun F ρ σ H Q g hp => by
  refine we_of (pe_bm PySem.F.plainAttrs_list PySem.F.slot_list_index PySem.F.type_list_index (mt_indexD hu) pe_we (pa_cons pe_we pa_nil hs) hbase hfew hline hs rfl) ?_
  refine ha.then g hp fun F1 ρ1 H1 p x _ g1 rp hp1 => ?_
  split at hp1
  · rename_i xs
    have rp0 := rp
    unfold Rep at rp
    obtain ⟨a1, vs, rfl, h1, h2⟩ := rp
    refine ⟨.inl ⟨rfl, _, SqL.of (g1.sub _ _ h1)⟩, he.then g1 hp1 fun F2 ρ2 H2 q y st2 g2 rq hp2 => ?_⟩
    obtain ⟨z, ez⟩ := hp2.some
    rw [ez] at hp2
    unfold pvIndex at ez
    split at ez
    · rename_i hok
      rw [Bool.and_eq_true] at hok
      cases ej : findIx (pvD q) (pvDs xs) 0 with
      | none => rw [ej] at ez; cases ez
      | some j =>
        rw [ej] at ez
        cases ez
        obtain ⟨i, e0, ⟨d, hd, ed⟩, hno⟩ := findIx_spec _ _ _ _ ej
        have e1 : j = i := by omega
        subst e1
        have r1 := Rep.mono g2.sub _ _ (Rep.mono st2.ff _ _ rp0)
        have r2 := Rep.mono g2.sub _ _ rq
        have d1 := (okD_dp 12 _ _ hok.1 r1).1
        rw [pvD] at d1
        have s1 := shaped_of hok.1 r1
        rw [pvD] at s1
        exact ⟨a1, y, _, _, j, d, rfl, rfl, d1, (okD_dp 12 _ _ hok.2 r2).1, s1, shaped_of hok.2 r2, hd, ed, hno, hp2 F2 H2 _ Stp.refl g2 Rep.int⟩
    · cases ez
  · exact hp1.elim
/-! {k: v, ..}, d[k] -/
def keyP : PV → Option Key
  | .int i => some (.inl i)
  | .str x => some (.inr x)
  | _ => none
def lookP : List Key → List PV → Key → Option PV
  | k :: ks, v :: vs, q => if k = q then some v else lookP ks vs q
  | _, _, _ => none
def pvDix (p q : PV) : Option PV := match p with
  | .dic ks vs => (keyP q).bind fun k => lookP ks vs k
  | _ => none
theorem lookP_val {K : PySem.W.Frag} {F : Hp} {q : Key} {z : PV} : ∀ {ks : List Key} {ps : List PV} {vs : List V}, ks.length = vs.length → Reps K F ps vs → lookP ks ps q = some z → ∃ v, valV (ks.zip vs) q = some v ∧ Rep K F z v
  | [], ps, vs, hl, r, h => by cases ps <;> cases h
  | k :: ks, [], vs, hl, r, h => by cases h
  | k :: ks, p :: ps, vs, hl, r, h => by
    obtain ⟨v, ws, rfl, r1, r2⟩ := r.inv
    unfold lookP at h
    rw [List.zip_cons_cons]
    split at h
    · rename_i e
      cases h
      exact ⟨v, valV_pos e, r1⟩
    · rename_i e
      rw [valV_neg e]
      exact lookP_val (by simpa using hl) r2 h
theorem keyP_V {K : PySem.W.Frag} {F : Hp} {q : PV} {k : Key} {y : V} (h : keyP q = some k) (r : Rep K F q y) : y = kV k := by
  cases q <;> cases h <;> (unfold Rep at r; subst r; rfl)
theorem s_dix {a e : Expr} {ma me : M} (hu : X.A.units + 1 < cLine) (ha : SndE X W a ma) (he : SndE X W e me) (hs : NoSl e := by exact fun _ _ => rfl) : SndE X W (.Subscript a e pos) (m2 pvDix ma me) := fun F ρ σ H Q g hp => by
  refine we_of (pe_dget hu pe_we pe_we hs) ?_
  refine ha.then g hp fun F1 ρ1 H1 p x _ g1 rp hp1 => ?_
  refine he.then g1 hp1 fun F2 ρ2 H2 q y st2 g2 rq hp2 => ?_
  obtain ⟨z, ez⟩ := hp2.some
  rw [ez] at hp2
  unfold pvDix at ez
  split at ez
  · rename_i ks vs
    cases ek : keyP q with
    | none => rw [ek] at ez; cases ez
    | some k =>
      rw [ek] at ez
      have rp' := Rep.mono st2.ff _ _ rp
      unfold Rep at rp'
      obtain ⟨a1, ws, rfl, h1, h2, h3⟩ := rp'
      obtain ⟨v, hv, rv⟩ := lookP_val h2 h3 ez
      exact ⟨a1, v, rfl, .inl ⟨_, k, .inl (g2.sub _ _ h1), keyP_V ek rq, hv.symm⟩, hp2 F2 H2 _ Stp.refl g2 rv⟩
  · cases ez
theorem putK_new {kvs : List (Key × V)} {k : Key} {v : V} (h : k ∉ kvs.map (·.1)) : putK kvs k v = kvs ++ [(k, v)] := by
  unfold putK
  rw [if_neg]
  intro z
  rw [List.any_eq_true] at z
  obtain ⟨kv, hm, e⟩ := z
  exact h (List.mem_map.mpr ⟨kv, hm, of_decide_eq_true e⟩)
theorem mergeK_nodup : ∀ (more acc : List (Key × V)), ((acc ++ more).map (·.1)).Nodup → mergeK acc more = acc ++ more
  | [], acc, _ => by simp [mergeK]
  | (k, v) :: r, acc, h => by
    have h' : ((acc ++ [(k, v)] ++ r).map (·.1)).Nodup := by simpa using h
    have ih := mergeK_nodup r (acc ++ [(k, v)]) h'
    unfold mergeK at ih ⊢
    rw [List.foldl_cons, putK_new, ih]
    · simp
    · intro z
      rw [List.map_append, List.nodup_append] at h
      exact h.2.2 k z k (by simp) rfl
/-- a dict's entries with written keys -/
def SndD (X : Cx) (W : WX) (pos : Pos) (keys : List (Option Expr)) (vals : List Expr) (ks : List Key) (ms : List M) : Prop :=
  ∃ trs, PPs X pos keys vals trs ∧ ∀ (F : Hp) (ρ : Rho) (σ : St) (H : Hp) (R : List (V × V) → Hp → Prop), Good X.K F ρ σ H →
    (match mArgs ms ρ with
      | .ok (ps, ρ1) => ∀ F1 H1 vs, Stp σ F ρ H F1 ρ1 H1 → Good X.K F1 ρ1 σ H1 → Reps X.K F1 ps vs → R ((ks.zip vs).map fun kv => (kV kv.1, kv.2)) H1
      | _ => False) → tPairs trs σ H R
theorem sd_nil : SndD X W pos [] [] [] [] := ⟨[], pps_nil, fun F ρ σ H R g hp => hp F H [] Stp.refl g Reps.nil⟩
theorem sd_cons {k : Key} {ke ve : Expr} {keys : List (Option Expr)} {vals : List Expr} {ks : List Key} {m : M} {ms : List M} (hk : PE X ke (tC (kV k))) (hv : SndE X W ve m) (hr : SndD X W pos keys vals ks ms) : SndD X W pos (some ke :: keys) (ve :: vals) (k :: ks) (m :: ms) := by
  obtain ⟨trs, hp, hs⟩ := hr
  refine ⟨_, pps_cons hk pe_we hp, fun F ρ σ H R g hq => ?_⟩
  show WE X ve σ H fun y H2 => _
  refine hv F ρ σ H _ g ?_
  unfold mArgs at hq
  cases e : m ρ with
  | bad => rw [e] at hq; exact hq
  | exc x r => rw [e] at hq; exact hq.elim
  | ok z =>
    obtain ⟨p, ρ1⟩ := z
    rw [e] at hq
    simp only [Res.bnd_ok] at hq
    intro F1 H1 v st1 g1 rv
    refine hs F1 ρ1 σ H1 _ g1 ?_
    cases e2 : mArgs ms ρ1 with
    | bad => rw [e2] at hq; exact hq
    | exc x r => rw [e2] at hq; exact hq
    | ok z =>
      obtain ⟨ps, ρ2⟩ := z
      rw [e2] at hq
      intro F2 H2 vs st2 g2 rvs
      exact hq F2 H2 (v :: vs) (st1.trans st2) g2 (Reps.cons (Rep.mono st2.ff _ _ rv) rvs)
def mDict (ks : List Key) (ms : List M) : M := fun ρ => match mArgs ms ρ with
  | .ok (ps, ρ1) => .ok (.dic ks ps, ρ1)
  | _ => .bad
theorem s_dict {keys : List (Option Expr)} {vals : List Expr} {ks : List Key} {ms : List M} (h : SndD X W pos keys vals ks ms) (nd : ks.Nodup) (hl : ks.length = ms.length := by rfl) (hall : keys.all (·.isSome) = true := by rfl) (hkl : keys.length = vals.length := by rfl) (h0 : keys ≠ [] := by intro z; cases z) (h15 : keys.length ≤ 15 := by decide) (hks : ks.length ≤ 15 := by decide) :
    SndE X W (.Dict keys vals pos) (mDict ks ms) := fun F ρ σ H Q g hp => by
  obtain ⟨trs, hpp, hs⟩ := h
  refine we_of (pe_disp hpp hall hkl h0 h15) ?_
  intro p np
  refine hs F ρ σ _ _ (g.lay np) ?_
  unfold mDict at hp
  cases e : mArgs ms ρ with
  | bad => rw [e] at hp; exact hp
  | exc x r => rw [e] at hp; exact hp
  | ok z =>
    obtain ⟨ps, ρ1⟩ := z
    rw [e] at hp
    intro F1 H1 vs st1 g1 rvs
    have nop : NotOwn ρ σ p := fun i xs ei z => by
      obtain ⟨a, ws, e1, e2, e3, e4⟩ := g.own i xs ei
      rw [e1] at z
      cases z
      rw [np] at e3
      cases e3
    have hp1 : H1 p = some (.dK []) := st1.kp p _ upd_same nop
    have fp1 : F1 p = none := st1.nf p _ upd_same (g.fnone np) nop
    have no1 : NotOwn ρ1 σ p := nop.sub st1.os
    have len : ks.length = vs.length := by rw [← rvs.length, mArgs_len e, hl]
    have sF : Same F1 (L2.upd F1 p (.dK (ks.zip vs))) := Same.upd fp1
    have em : mergeK [] (ks.zip vs) = ks.zip vs := by
      have := mergeK_nodup (ks.zip vs) [] (by
        rw [List.nil_append, List.map_fst_zip (by omega)]
        exact nd)
      simpa using this
    refine ⟨hp1, ks.zip vs, rfl, by rw [List.length_zip]; omega, ?_⟩
    rw [em]
    have gD := g1.updD (o := .dK (ks.zip vs)) fp1 no1
    have gF := gD.freeze upd_same fp1 no1
    refine hp (L2.upd F1 p (.dK (ks.zip vs))) _ (.ref p) ⟨st1.ff.trans sF, st1.os, fun q o eq n => ?_, fun q o eq f n => ?_, fun q eq => ?_⟩ gF ?_
    · rw [upd_ne (ne_of_none eq np)]
      exact st1.kp q o (by rw [upd_ne (ne_of_none eq np)]; exact eq) n
    · rw [upd_ne (ne_of_none eq np)]
      exact st1.nf q o (by rw [upd_ne (ne_of_none eq np)]; exact eq) f n
    · by_cases z : q = p
      · rw [z]; exact np
      · rw [upd_ne z] at eq
        have := st1.ex q eq
        rw [upd_ne z] at this
        exact this
    · show Rep _ _ _ _
      unfold Rep
      exact ⟨p, vs, rfl, upd_same, len, Reps.mono sF _ _ rvs⟩
/-! zip of two lists, of two tuples -/
def pairP (p q : PV) : PV := .tup [p, q]
def pvZip : List PV → Option (List PV)
  | [.lst xs, .lst ys] => some (List.zipWith pairP xs ys)
  | [.tup xs, .tup ys] => some (List.zipWith pairP xs ys)
  | _ => none
def mZip (ms : List M) : MI := fun ρ => (mArgs ms ρ).bnd fun ps ρ1 => Res.of (pvZip ps) ρ1
theorem item_pair {K : PySem.W.Frag} {F F2 H2 H3 : Hp} {xs ys : List PV} {vs ws : List V} {i : Nat} {p : PV} {v : V} (r1 : Reps K F xs vs) (r2 : Reps K F ys ws) (s1 : Same F F2) (s2 : Same F2 H2) (e : (List.zipWith pairP xs ys)[i]? = some p)
    (y : YPair (fun i => vs[i]?) (fun i => ws[i]?) i H2 v H3) : ItemAt K F2 H2 p v H3 := by
  obtain ⟨T, x, z, rfl, hT, rfl, hx, hz⟩ := y
  rw [List.getElem?_zipWith] at e
  cases e1 : xs[i]? with
  | none => rw [e1] at e; cases e
  | some a =>
    cases e2 : ys[i]? with
    | none => rw [e1, e2] at e; cases e
    | some c =>
      rw [e1, e2] at e
      cases e
      obtain ⟨v1, h1, h2⟩ := r1.get e1
      obtain ⟨v2, h3, h4⟩ := r2.get e2
      rw [show vs[i]? = some x from hx] at h1
      rw [show ws[i]? = some z from hz] at h3
      cases h1
      cases h3
      have sT : Same F2 (L2.upd F2 T (.tup [x, z])) := Same.upd (s2.free hT)
      refine .inr ⟨T, _, hT, rfl, ?_⟩
      unfold pairP Rep
      exact ⟨T, _, rfl, upd_same, Reps.cons (Rep.mono sT _ _ (Rep.mono s1 _ _ h2)) (Reps.cons (Rep.mono sT _ _ (Rep.mono s1 _ _ h4)) Reps.nil)⟩
theorem walk_zipT {K : PySem.W.Frag} {a b : Addr} {xs ys : List V} {n : Nat} (hn : n = min xs.length ys.length) : Walk (RZ.ItzT K a b) n (fun H => SqT K H a xs ∧ SqT K H b ys) (YPair (fun i => xs[i]?) (fun i => ys[i]?)) := by
  subst hn
  refine ⟨fun i _ hi q => ?_, fun _ q => ⟨xs, ys, q.1, q.2, by omega⟩, fun i H v H' _ q y => ?_⟩
  · have h1 : i < xs.length := by omega
    have h2 : i < ys.length := by omega
    exact ⟨xs, ys, xs[i], ys[i], q.1, q.2, by simp [h1], by simp [h2]⟩
  · obtain ⟨T, x, z, h1, h2, h3, h4, h5⟩ := y
    exact ⟨T, x, z, h1, h2, h3, h4 xs q.1, h5 ys q.2⟩
theorem i_zip {p tpos : Pos} {e e2 : Expr} {m m' : M} {elts : List Expr} {kk : Nat} (hg : Gl X "zip") (hm : X.mg "zip" = none) (ha : SndE X W e m) (hb : SndE X W e2 m') (hs : starEach [e, e2] X.env = (false, eval e X.env) :: starEach [e2] X.env := by rfl) (hs2 : starEach [e2] X.env = [(false, eval e2 X.env)] := by rfl)
    (hpl : (backTo pos (starEach [e2] X.env)).any (·.1) = false := by rfl) : SndI X W (.Tuple elts kk tpos) (.Call (.Name "zip" p) [e, e2] [] pos) (mZip [m, m']) := fun F ρ σ H R g hp => by
  refine wi_of (RZ.pi_zipA hg hm pa_wa hs hpl) ?_
  refine (sa_cons ha (sa_cons hb sa_nil hs2) hs).thenL g hp fun F1 ρ1 H1 ps vs st g1 rp len hp1 => ?_
  obtain ⟨z, ez⟩ := hp1.some
  rw [ez] at hp1
  unfold pvZip at ez
  split at ez
  · rename_i xs ys
    cases ez
    obtain ⟨v, w, rfl, r, r'⟩ := rp.two
    unfold Rep at r r'
    obtain ⟨a, us, rfl, h1, h2⟩ := r
    obtain ⟨b1, ws, rfl, h3, h4⟩ := r'
    refine ⟨a, b1, us, ws, rfl, .inl ⟨SqL.of (g1.sub _ _ h1), SqL.of (g1.sub _ _ h3), hp1 F1 H1 _ Stp.refl g1 ⟨?_⟩⟩⟩
    exact ⟨_, _, walk_zip (xs := us) (ys := ws) (by rw [List.length_zipWith, h2.length, h4.length]), fun H2 s => ⟨SqL.of (s _ _ h1), SqL.of (s _ _ h3)⟩, fun i p F2 H2 x H3 e s1 s2 y => item_pair h2 h4 s1 s2 e y⟩
  · rename_i xs ys
    cases ez
    obtain ⟨v, w, rfl, r, r'⟩ := rp.two
    unfold Rep at r r'
    obtain ⟨a, us, rfl, h1, h2⟩ := r
    obtain ⟨b1, ws, rfl, h3, h4⟩ := r'
    refine ⟨a, b1, us, ws, rfl, .inr ⟨SqT.of (g1.sub _ _ h1), SqT.of (g1.sub _ _ h3), hp1 F1 H1 _ Stp.refl g1 ⟨?_⟩⟩⟩
    exact ⟨_, _, walk_zipT (xs := us) (ys := ws) (by rw [List.length_zipWith, h2.length, h4.length]), fun H2 s => ⟨SqT.of (s _ _ h1), SqT.of (s _ _ h3)⟩, fun i p F2 H2 x H3 e s1 s2 y => item_pair h2 h4 s1 s2 e y⟩
  · cases ez
/-! a, b = [..], y and a, b, c = x, y, z -/
def mParF (i j : Nat) (mf : MF) (m : M) : MS := fun ρ => (mf ρ).sr fun xs ρ1 => (m ρ1).sr fun q ρ2 => .nx ((ρ2.set i (.own xs)).set j (.val q))
theorem st_parF {i j : Nat} {x y : Str} {a c' : Expr} {mf : MF} {m' : M} {px py pt : Pos} {kt k2 pt2} (c : Ctx X W) (hi : X.N[i]? = some x) (hj : X.N[j]? = some y) (hij : i ≠ j)
    (hx : X.env.scope.names.lookup x = some .local) (hy : X.env.scope.names.lookup y = some .local) (ha : SndF X W a mf) (hc : SndE X W c' m') (hbi : b = none ∨ i ≠ 0) (hbj : b = none ∨ j ≠ 0)
    (hw : swappedStores [.Tuple [.Name x px, .Name y py] kt pt] (.Tuple [a, c'] k2 pt2) X.env = pure (some [x, y]))
    (hs : swapsWithSole [.Tuple [.Name x px, .Name y py] kt pt] (.Tuple [a, c'] k2 pt2) pos.line X.env = pure false := by rfl)
    (hs1 : starEach [a, c'] X.env = (false, eval a X.env) :: starEach [c'] X.env := by rfl) (hs2 : starEach [c'] X.env = (false, eval c' X.env) :: starEach [] X.env := by rfl) :
    SndS X W b (.Assign [.Tuple [.Name x px, .Name y py] kt pt] (.Tuple [a, c'] k2 pt2) pos) (mParF i j mf m') := fun H0 F0 F ρ σ H D f g hp => by
  refine ws_of (ps_par c.calm c.nd hi hj hij hx hy (pa_cons pe_we (pa_cons pe_we pa_nil hs2) hs1) hw hs) ?_
  refine ha F ρ σ H _ g (Post.sr f hp fun F1 ρ1 H1 xs v st1 f1 g1 r hp1 => ?_)
  obtain ⟨a1, vs, rfl, hn, fa, no, ha1, rv⟩ := r
  refine hc F1 ρ1 σ H1 _ g1 (Post.sr f1 hp1 fun F2 ρ2 H2 q w st2 f2 g2 rq hp2 => ?_)
  have h2 : H2 a1 = some (.lst vs) := st2.kp a1 _ ha1 no
  have f2a : F2 a1 = none := st2.nf a1 _ ha1 fa no
  exact ⟨_, w, rfl, hp2 F2 _ H2 ((f2.setOwn hbi (f.ex a1 hn)).setVal hbj) ((g2.setOwn f2a (no.sub st2.os) h2 (Reps.mono st2.ff _ _ rv)).setVal rq)⟩
def mPar3 (i j l : Nat) (ms : List M) : MS := fun ρ => (mArgs ms ρ).sr fun ps ρ1 => match ps with
  | [p, q, r] => .nx (((ρ1.set i (.val p)).set j (.val q)).set l (.val r))
  | _ => .bad
theorem st_par3 {i j l : Nat} {x y z : Str} {a c' d' : Expr} {m m' m'' : M} {px py pz pt : Pos} {kt k2 pt2} (c : Ctx X W) (hi : X.N[i]? = some x) (hj : X.N[j]? = some y) (hl : X.N[l]? = some z) (hij : i ≠ j) (hil : i ≠ l) (hjl : j ≠ l)
    (hx : X.env.scope.names.lookup x = some .local) (hy : X.env.scope.names.lookup y = some .local) (hz : X.env.scope.names.lookup z = some .local) (ha : SndA X W [a, c', d'] (mArgs [m, m', m''])) (hbi : b = none ∨ i ≠ 0) (hbj : b = none ∨ j ≠ 0) (hbl : b = none ∨ l ≠ 0)
    (hw : swappedStores [.Tuple [.Name x px, .Name y py, .Name z pz] kt pt] (.Tuple [a, c', d'] k2 pt2) X.env = pure (some [x, y, z]))
    (hs : swapsWithSole [.Tuple [.Name x px, .Name y py, .Name z pz] kt pt] (.Tuple [a, c', d'] k2 pt2) pos.line X.env = pure false := by rfl) :
    SndS X W b (.Assign [.Tuple [.Name x px, .Name y py, .Name z pz] kt pt] (.Tuple [a, c', d'] k2 pt2) pos) (mPar3 i j l [m, m', m'']) := fun H0 F0 F ρ σ H D f g hp => by
  refine ws_of (ps_par3 c.calm c.nd hi hj hl hij hil hjl hx hy hz pa_wa hw hs) ?_
  refine ha F ρ σ H _ g (Post.sr f hp fun F1 ρ1 H1 ps vs _ f1 g1 r hp1 => ?_)
  split at hp1
  · rename_i p q t
    replace r : Reps X.K F1 [p, q, t] vs := r
    obtain ⟨v, us, rfl, r1, r'⟩ := r.inv
    obtain ⟨w, u, rfl, r2, r3⟩ := r'.two
    exact ⟨v, w, u, rfl, hp1 F1 _ H1 (((f1.setVal hbi).setVal hbj).setVal hbl) (((g1.setVal r1).setVal r2).setVal r3)⟩
  · exact hp1.elim
/-! name //= e -/
def ipC (C : Int → Int → Prop) (h : Int → Int → Int) : TIp := fun x y H Q => ∃ i j, x = .int i ∧ y = .int j ∧ C i j ∧ Q (.int (h i j)) H
theorem ip_fdiv : PIp X .FloorDiv (ipC CDivW fun i j => i / j) := by
  intro pins s σ H x y v u Q I r1 r2 h
  obtain ⟨i, j, e1, e2, hc, q⟩ := h
  subst e1; subst e2
  obtain ⟨t, rfl⟩ := r1
  obtain ⟨t', rfl⟩ := r2
  have h1 : (0 : Int) < j := hc.1
  exact PyProof.Rows.ifloordiv_int (by omega) (by rw [Int.fdiv_eq_ediv_of_nonneg i (by omega)]; exact ⟨.int _, H, I.tok _, ⟨_, rfl⟩, q⟩) (.inl (PyProof.noPylong_of_log2 hc.2))
theorem st_augDiv {i : Nat} {x : Str} {e : Expr} {m : M} {pos' : Pos} (c : Ctx X W) (hi : X.N[i]? = some x) (hx : Loc X.env.scope x) (he : SndE X W e m) (hb : b = none ∨ i ≠ 0) (hf : X.fn x = true ∨ X.env.scope.names.lookup x = some .local := by first | exact .inl rfl | exact .inr rfl | assumption) :
    SndS X W b (.AugAssign (.Name x pos') .FloorDiv e pos) (mAug i pvDiv m) := fun H0 F0 F ρ σ H D f g hp => by
  refine ws_of (ps_aug c.nd hi hx pe_we ip_fdiv hf) ?_
  unfold mAug at hp
  split at hp
  · rename_i q eq
    obtain ⟨v, ev, rv⟩ := g.val i q eq
    refine ⟨v, ev, ?_⟩
    refine he F ρ σ H _ g (Post.sr f hp fun F1 ρ1 H1 p w st f1 g1 r hp1 => ?_)
    cases ez : pvDiv q p with
    | none => rw [ez] at hp1; exact hp1.elim
    | some z =>
      rw [ez] at hp1
      unfold pvDiv at ez
      split at ez
      · split at ez
        · rename_i i1 j1 hc
          cases ez
          unfold Rep at rv
          replace r : Rep X.K F1 (.int j1) w := r
          unfold Rep at r
          exact ⟨i1, j1, rv, r, cdiv_of hc, hp1 F1 _ H1 (f1.setVal hb) (g1.setVal Rep.int)⟩
        · cases ez
      · cases ez
  · exact hp.elim
/-- a def of no use: nothing is promised -/
theorem fn_bad {P : Program} {w : World} {K : PySem.W.Frag} {mg : Str → Option Value} {base : Heap} {k n : Nat} {f : Addr} {fd : FuncData} {ps : List Str} (hn : ps.length = n) : FnOk P w K mg base (L2.CX P w) k f fd ps (spP K mg n fun _ => .bad) :=
  ⟨fun vs H Q E h => by rw [hn]; exact h.1, fun A outer s H args us vs Q E hr he hb hv hs => by obtain ⟨_, _, _, _, _, h⟩ := hs; exact h.elim⟩
end
end Ev

set_option Elab.async false
set_option linter.all false
set_option maxRecDepth 100000
universe u v
namespace Ev
open PySem L2
/-! ### what is wanted of a mirror's answer, rule by rule -/
/-- of the same kind, bound to k -/
abbrev Tg {κ : Sort u} (_ : κ) (α : Type v) : Type v := α
def WpE {α : Type} (Q : α → Rho → Prop) (E : Exc → Rho → Prop) (r : Tg (PProd.mk Q E) (Res (α × Rho))) : Prop := match r with
  | .ok (a, ρ) => Q a ρ
  | .exc x ρ => E x ρ
  | .bad => False
structure PR where
  nx : Rho → Prop := fun _ => False
  rt : PV → Rho → Prop := fun _ _ => False
  rf : List PV → Rho → Prop := fun _ _ => False
  bk : Rho → Prop := fun _ => False
  ct : Rho → Prop := fun _ => False
  ex : Exc → Rho → Prop := fun _ _ => False
def WpS (D : PR) (r : Tg D SR) : Prop := match r with
  | .nx ρ => D.nx ρ | .rt p ρ => D.rt p ρ | .rf xs ρ => D.rf xs ρ | .bk ρ => D.bk ρ | .ct ρ => D.ct ρ | .exc x ρ => D.ex x ρ | .bad => False
def WpP (Q : PV → Prop) (E : Exc → Prop) (r : Tg (PProd.mk Q E) Ret) : Prop := match r with
  | .ok p => Q p | .exc x => E x | .bad => False
def WpB (Q : PV → List PV → Prop) (E : Exc → List PV → Prop) (r : Tg (PProd.mk Q E) RetB) : Prop := match r with
  | .ok p ys => Q p ys | .exc x ys => E x ys | .bad => False
def WpF (Q : List PV → Prop) (E : Exc → Prop) (r : Tg (PProd.mk Q E) RetF) : Prop := match r with
  | .ok p => Q p | .exc x => E x | .bad => False
def WpO {α : Type} (k : α → Prop) (o : Tg k (Option α)) : Prop := match o with
  | some a => k a
  | none => False
abbrev noE : Exc → Rho → Prop := fun _ _ => False
section
variable {α β : Type} {Q : α → Rho → Prop} {E : Exc → Rho → Prop} {ρ : Rho} {D : PR}
@[simp] theorem wp_ok {a : α} : WpE Q E (.ok (a, ρ)) = Q a ρ := rfl
@[simp] theorem wp_exc {x : Exc} : WpE Q E (.exc x ρ : Res (α × Rho)) = E x ρ := rfl
@[simp] theorem wp_bad : WpE Q E (.bad : Res (α × Rho)) = False := rfl
@[simp] theorem wo_some {a : α} {k : α → Prop} : WpO k (some a) = k a := rfl
@[simp] theorem wo_none {k : α → Prop} : WpO k (none : Option α) = False := rfl
@[simp] theorem wo_if {c : Prop} [Decidable c] {a b : Option α} {k : α → Prop} : WpO k (if c then a else b) = if c then WpO k a else WpO k b := by split <;> rfl
@[simp] theorem wo_map {f : β → α} {o : Option β} {k : α → Prop} : WpO k (o.map f) = WpO (fun b => k (f b)) o := by cases o <;> rfl
@[simp] theorem wo_bind {f : β → Option α} {o : Option β} {k : α → Prop} : WpO k (o.bind f) = WpO (fun b => WpO k (f b)) o := by cases o <;> rfl
@[simp] theorem wp_of {o : Option α} : WpE Q E (Res.of o ρ) = WpO (fun a => Q a ρ) o := by cases o <;> rfl
theorem wp_bnd {r : Res (β × Rho)} {f : β → Rho → Res (α × Rho)} : WpE Q E (r.bnd f) = WpE (fun b ρ1 => WpE Q E (f b ρ1)) E r := by
  cases r with
  | ok z => obtain ⟨a, ρ⟩ := z; rfl
  | exc x ρ => rfl
  | bad => rfl
theorem wp_sr {r : Res (β × Rho)} {f : β → Rho → SR} : WpS D (r.sr f) = WpE (fun b ρ1 => WpS D (f b ρ1)) D.ex r := by
  cases r with
  | ok z => obtain ⟨a, ρ⟩ := z; rfl
  | exc x ρ => rfl
  | bad => rfl
@[simp] theorem ws_nx : WpS D (.nx ρ) = D.nx ρ := rfl
@[simp] theorem ws_rt {p : PV} : WpS D (.rt p ρ) = D.rt p ρ := rfl
@[simp] theorem ws_rf {p : List PV} : WpS D (.rf p ρ) = D.rf p ρ := rfl
@[simp] theorem ws_bk : WpS D (.bk ρ) = D.bk ρ := rfl
@[simp] theorem ws_ct : WpS D (.ct ρ) = D.ct ρ := rfl
@[simp] theorem ws_exc {x : Exc} : WpS D (.exc x ρ) = D.ex x ρ := rfl
@[simp] theorem ws_bad : WpS D .bad = False := rfl
end
section
variable {Q : PV → Rho → Prop} {QT : Bool → Rho → Prop} {QA : List PV → Rho → Prop} {E : Exc → Rho → Prop} {ρ : Rho} {D : PR} {i j l : Nat}
/-! expressions -/
@[simp] theorem wp_name : WpE Q E (mName i ρ) = (match ρ[i]? with | some (.val p) => Q p ρ | some (.own xs) => Q (.lst xs) (ρ.set i (.val (.lst xs))) | _ => False) := by
  unfold mName; split <;> try simp_all
@[simp] theorem wp_c {p : PV} : WpE Q E (mC p ρ) = Q p ρ := rfl
@[simp] theorem wp_m2 {op : PV → PV → Option PV} {a b : M} : WpE Q E (m2 op a b ρ) = WpE (fun p ρ1 => WpE (fun q ρ2 => WpE Q E (Res.of (op p q) ρ2)) E (b ρ1)) E (a ρ) := by
  unfold m2; rw [wp_bnd]; congr; funext p ρ1; rw [wp_bnd]
@[simp] theorem wp_m1 {op : PV → Option PV} {a : M} : WpE Q E (m1 op a ρ) = WpE (fun p ρ1 => WpE Q E (Res.of (op p) ρ1)) E (a ρ) := by
  unfold m1; rw [wp_bnd]
@[simp] theorem wp_test {a : M} : WpE QT E (mTest a ρ) = WpE (fun p ρ1 => WpE QT E (Res.of (pvTruth p) ρ1)) E (a ρ) := by
  unfold mTest; rw [wp_bnd]
@[simp] theorem wp_truthN : WpE QT E (mTruthN i ρ) = WpE QT E (Res.of ((slotV ρ i).bind pvTruth) ρ) := rfl
@[simp] theorem wp_lenN : WpE Q E (mLenN i ρ) = WpE Q E (Res.of ((slotV ρ i).bind pvLen) ρ) := rfl
@[simp] theorem wp_ixN {m : M} : WpE Q E (mIxN i m ρ) = WpO (fun _ => WpE (fun q ρ1 => WpE Q E (Res.of ((slotV ρ1 i).bind fun p => pvIx p q) ρ1)) E (m ρ)) (slotV ρ i) := by
  unfold mIxN
  split <;> rename_i h <;> simp only [h]
  · rfl
  · rw [wp_bnd]; rfl
@[simp] theorem wp_and {a b : MT} : WpE QT E (mAnd a b ρ) = WpE (fun c ρ1 => if c = true then WpE QT E (b ρ1) else QT false ρ1) E (a ρ) := by
  unfold mAnd; rw [wp_bnd]; congr; funext c ρ1; cases c <;> rfl
@[simp] theorem wp_or {a b : MT} : WpE QT E (mOr a b ρ) = WpE (fun c ρ1 => if c = true then QT true ρ1 else WpE QT E (b ρ1)) E (a ρ) := by
  unfold mOr; rw [wp_bnd]; congr; funext c ρ1; cases c <;> rfl
@[simp] theorem wp_notT {a : MT} : WpE QT E (mNotT a ρ) = WpE (fun c ρ1 => QT (!c) ρ1) E (a ρ) := by
  unfold mNotT; rw [wp_bnd]; rfl
@[simp] theorem wp_andV {a b : M} : WpE Q E (mAndV a b ρ) = WpE (fun p ρ1 => match p with | .bl true => WpE Q E (b ρ1) | .bl false => Q (.bl false) ρ1 | _ => False) E (a ρ) := by
  unfold mAndV; rw [wp_bnd]; congr; funext c ρ1; split <;> try simp_all
@[simp] theorem wp_orV {a b : M} : WpE Q E (mOrV a b ρ) = WpE (fun p ρ1 => match p with | .bl true => Q (.bl true) ρ1 | .bl false => WpE Q E (b ρ1) | _ => False) E (a ρ) := by
  unfold mOrV; rw [wp_bnd]; congr; funext c ρ1; split <;> try simp_all
@[simp] theorem wp_notV {a : M} : WpE Q E (mNotV a ρ) = WpE (fun p ρ1 => WpE Q E (Res.of ((pvTruth p).map fun k => .bl (!k)) ρ1)) E (a ρ) := by
  unfold mNotV; rw [wp_bnd]
@[simp] theorem wp_if {c : MT} {a b : M} : WpE Q E (mIf c a b ρ) = WpE (fun k ρ1 => if k = true then WpE Q E (a ρ1) else WpE Q E (b ρ1)) E (c ρ) := by
  unfold mIf; rw [wp_bnd]; congr; funext k ρ1; cases k <;> rfl
@[simp] theorem wp_ifF {c : MT} {a b : MF} : WpE QA E (mIfF c a b ρ) = WpE (fun k ρ1 => if k = true then WpE QA E (a ρ1) else WpE QA E (b ρ1)) E (c ρ) := by
  unfold mIfF; rw [wp_bnd]; congr; funext k ρ1; cases k <;> rfl
@[simp] theorem wp_args0 : WpE QA E (mArgs [] ρ) = QA [] ρ := rfl
@[simp] theorem wp_args1 {a : M} {as : List M} : WpE QA E (mArgs (a :: as) ρ) = WpE (fun p ρ1 => WpE (fun ps ρ2 => QA (p :: ps) ρ2) E (mArgs as ρ1)) E (a ρ) := by
  rw [mArgs, wp_bnd]; congr; funext p ρ1; rw [wp_bnd]; rfl
@[simp] theorem wp_tup {as : List M} : WpE Q E (mTup as ρ) = WpE (fun ps ρ1 => Q (.tup ps) ρ1) E (mArgs as ρ) := by
  unfold mTup; rw [wp_bnd]; rfl
@[simp] theorem wp_frz {m : MF} : WpE Q E (mFrz m ρ) = WpE (fun ps ρ1 => Q (.lst ps) ρ1) E (m ρ) := by
  unfold mFrz; rw [wp_bnd]; rfl
@[simp] theorem wp_callB {op : List PV → Option PV} {as : List M} : WpE Q E (mCallB op as ρ) = WpE (fun ps ρ1 => WpE Q E (Res.of (op ps) ρ1)) E (mArgs as ρ) := by
  unfold mCallB; rw [wp_bnd]
@[simp] theorem wp_callF {op : List PV → Option (List PV)} {as : List M} : WpE QA E (mCallF op as ρ) = WpE (fun ps ρ1 => WpE QA E (Res.of (op ps) ρ1)) E (mArgs as ρ) := by
  unfold mCallF; rw [wp_bnd]
@[simp] theorem wp_cat {a b : M} : WpE QA E (mCat a b ρ) = WpE (fun p ρ1 => WpE (fun q ρ2 => WpE QA E (Res.of (pvCat p q) ρ2)) E (b ρ1)) E (a ρ) := by
  unfold mCat; rw [wp_bnd]; congr; funext p ρ1; rw [wp_bnd]
@[simp] theorem wp_repL {a b : M} : WpE QA E (mRepL a b ρ) = WpE (fun p ρ1 => WpE (fun q ρ2 => WpE QA E (Res.of (pvRepL p q) ρ2)) E (b ρ1)) E (a ρ) := by
  unfold mRepL; rw [wp_bnd]; congr; funext p ρ1; rw [wp_bnd]
@[simp] theorem wp_chain {op op' : PV → PV → Option PV} {a b c : M} : WpE Q E (mChain op op' a b c ρ) = WpE (fun p ρ1 => WpE (fun q ρ2 => match op p q with | some (.bl true) => WpE (fun r ρ3 => WpE Q E (Res.of (op' q r) ρ3)) E (c ρ2) | some (.bl false) => Q (.bl false) ρ2 | _ => False) E (b ρ1)) E (a ρ) := by
  unfold mChain; rw [wp_bnd]; congr; funext p ρ1; rw [wp_bnd]; congr; funext q ρ2
  split <;> try simp_all [wp_bnd]
@[simp] theorem wp_cut {m : M} {lo hi : Option M} : WpE Q E (mCut m lo hi ρ) = WpE (fun p ρ1 => WpE (fun l ρ2 => WpE (fun h ρ3 => WpE Q E (Res.of (pvCut p l h) ρ3)) E (mPart hi ρ2)) E (mPart lo ρ1)) E (m ρ) := by
  unfold mCut; rw [wp_bnd]; congr; funext p ρ1; rw [wp_bnd]; congr; funext q ρ2; rw [wp_bnd]
@[simp] theorem wp_part0 {QO : Option Int → Rho → Prop} : WpE QO E (mPart none ρ) = QO none ρ := rfl
@[simp] theorem wp_part1 {QO : Option Int → Rho → Prop} {m : M} : WpE QO E (mPart (some m) ρ) = WpE (fun p ρ1 => match p with | .int i => QO (some i) ρ1 | _ => False) E (m ρ) := by
  rw [mPart, wp_bnd]; congr; funext p ρ1; split <;> try simp_all
@[simp] theorem wp_call {f : FP} {as : List M} : WpE Q E (mCall f as ρ) = WpE (fun ps ρ1 => WpP (fun p => Q p ρ1) (fun x => E x ρ1) (f ps)) E (mArgs as ρ) := by
  unfold mCall; rw [wp_bnd]; congr; funext ps ρ1; cases f ps <;> rfl
@[simp] theorem wp_callFr {f : FF} {as : List M} : WpE QA E (mCallFr f as ρ) = WpE (fun ps ρ1 => WpF (fun p => QA p ρ1) (fun x => E x ρ1) (f ps)) E (mArgs as ρ) := by
  unfold mCallFr; rw [wp_bnd]; congr; funext ps ρ1; cases f ps <;> rfl
@[simp] theorem wp_callBx {f : FB} {as : List M} : WpE Q E (mCallBx f i as ρ) = (match ρ[i]? with | some (.own _) => WpE (fun ps ρ1 => match ρ1[i]? with | some (.own xs) => WpB (fun p ys => Q p (ρ1.set i (.own ys))) (fun x ys => E x (ρ1.set i (.own ys))) (f xs ps) | _ => False) E (mArgs as ρ) | _ => False) := by
  unfold mCallBx
  split <;> try simp_all only [wp_bad]
  rw [wp_bnd]; congr; funext ps ρ1
  split <;> try simp_all only [wp_bad]
  rename_i xs _
  cases f xs ps <;> rfl
@[simp] theorem wp_popN : WpE Q E (mPopN i ρ) = (match ρ[i]? with | some (.own xs) => WpO (fun p => Q p (ρ.set i (.own xs.dropLast))) xs.getLast? | _ => False) := by
  unfold mPopN
  split <;> try simp_all only [wp_bad]
  split <;> try simp_all only [wp_bad, wp_ok, wo_some, wo_none]
@[simp] theorem wp_index {a e : M} : WpE Q E (mIndex a e ρ) = WpE (fun p ρ1 => match p with | .lst xs => WpE (fun q ρ2 => WpE Q E (Res.of (pvIndex xs q) ρ2)) E (e ρ1) | _ => False) E (a ρ) := by
  unfold mIndex; rw [wp_bnd]; congr; funext p ρ1
  split <;> try simp_all only [wp_bad, wp_bnd]
@[simp] theorem wp_yes : WpE QT E (mYes ρ) = QT true ρ := rfl
/-! what is walked -/
@[simp] theorem wp_seqI {m : M} : WpE QA E (mSeqI m ρ) = WpE (fun p ρ1 => WpE QA E (Res.of (pvSeq p) ρ1)) E (m ρ) := by unfold mSeqI; rw [wp_bnd]
@[simp] theorem wp_range {as : List M} : WpE QA E (mRange as ρ) = WpE (fun ps ρ1 => WpE QA E (Res.of (pvRange ps) ρ1)) E (mArgs as ρ) := by unfold mRange; rw [wp_bnd]
@[simp] theorem wp_revI {m : M} : WpE QA E (mRevI m ρ) = WpE (fun p ρ1 => WpE QA E (Res.of (pvRevI p) ρ1)) E (m ρ) := by unfold mRevI; rw [wp_bnd]
@[simp] theorem wp_zip {as : List M} : WpE QA E (mZip as ρ) = WpE (fun ps ρ1 => WpE QA E (Res.of (pvZip ps) ρ1)) E (mArgs as ρ) := by unfold mZip; rw [wp_bnd]
/-! statements -/
@[simp] theorem ws_seq {a c : MS} : WpS D (mSeq a c ρ) = WpS { D with nx := fun ρ1 => WpS D (c ρ1) } (a ρ) := by
  unfold mSeq; cases a ρ <;> rfl
@[simp] theorem ws_nil : WpS D (mNil ρ) = D.nx ρ := rfl
@[simp] theorem ws_pass : WpS D (mPass ρ) = D.nx ρ := rfl
@[simp] theorem ws_ret {m : M} : WpS D (mRet m ρ) = WpE (fun p ρ1 => D.rt p ρ1) D.ex (m ρ) := by unfold mRet; rw [wp_sr]; rfl
@[simp] theorem ws_retF {m : MF} : WpS D (mRetF m ρ) = WpE (fun p ρ1 => D.rf p ρ1) D.ex (m ρ) := by unfold mRetF; rw [wp_sr]; rfl
@[simp] theorem ws_retN : WpS D (mRetN i ρ) = (match ρ[i]? with | some (.own xs) => D.rf xs (ρ.set i .emp) | _ => False) := by
  unfold mRetN; split <;> try simp_all
@[simp] theorem ws_set {m : M} : WpS D (mSet i m ρ) = WpE (fun p ρ1 => D.nx (ρ1.set i (.val p))) D.ex (m ρ) := by unfold mSet; rw [wp_sr]; rfl
@[simp] theorem ws_setF {m : MF} : WpS D (mSetF i m ρ) = WpE (fun p ρ1 => D.nx (ρ1.set i (.own p))) D.ex (m ρ) := by unfold mSetF; rw [wp_sr]; rfl
@[simp] theorem ws_if {c : MT} {a b : MS} : WpS D (mIfS c a b ρ) = WpE (fun k ρ1 => if k = true then WpS D (a ρ1) else WpS D (b ρ1)) D.ex (c ρ) := by
  unfold mIfS; rw [wp_sr]; congr; funext k ρ1; cases k <;> rfl
@[simp] theorem ws_asg {g : MG} {m : M} : WpS D (mAsg g m ρ) = WpE (fun p ρ1 => WpO (fun ρ2 => D.nx ρ2) (g p ρ1)) D.ex (m ρ) := by
  unfold mAsg; rw [wp_sr]; congr; funext p ρ1; split <;> try simp_all
@[simp] theorem ws_par {as : List M} : WpS D (mPar i j as ρ) = WpE (fun ps ρ1 => match ps with | [p, q] => D.nx ((ρ1.set i (.val p)).set j (.val q)) | _ => False) D.ex (mArgs as ρ) := by
  unfold mPar; rw [wp_sr]; congr; funext p ρ1; split <;> try simp_all
@[simp] theorem ws_par3 {as : List M} : WpS D (mPar3 i j l as ρ) = WpE (fun ps ρ1 => match ps with | [p, q, r] => D.nx (((ρ1.set i (.val p)).set j (.val q)).set l (.val r)) | _ => False) D.ex (mArgs as ρ) := by
  unfold mPar3; rw [wp_sr]; congr; funext p ρ1; split <;> try simp_all
@[simp] theorem ws_parF {mf : MF} {m : M} : WpS D (mParF i j mf m ρ) = WpE (fun xs ρ1 => WpE (fun q ρ2 => D.nx ((ρ2.set i (.own xs)).set j (.val q))) D.ex (m ρ1)) D.ex (mf ρ) := by
  unfold mParF; rw [wp_sr]; congr; funext p ρ1; rw [wp_sr]; rfl
@[simp] theorem ws_aug {op : PV → PV → Option PV} {m : M} : WpS D (mAug i op m ρ) = (match ρ[i]? with | some (.val q) => WpE (fun p ρ1 => WpO (fun z => D.nx (ρ1.set i (.val z))) (op q p)) D.ex (m ρ) | _ => False) := by
  unfold mAug; split <;> try simp_all only [ws_bad]
  rw [wp_sr]; congr; funext p ρ1; split <;> try simp_all
@[simp] theorem ws_append {m : M} : WpS D (mAppend i m ρ) = (match ρ[i]? with | some (.own _) => WpE (fun p ρ1 => match ρ1[i]? with | some (.own xs) => if xs.length < sizeLine then D.nx (ρ1.set i (.own (xs ++ [p]))) else False | _ => False) D.ex (m ρ) | _ => False) := by
  unfold mAppend; split <;> try simp_all only [ws_bad]
  rw [wp_sr]; congr; funext p ρ1; split <;> try simp_all only [ws_bad]
  split <;> rfl
@[simp] theorem ws_setIx {mi mv : M} : WpS D (mSetIx i mi mv ρ) = WpE (fun p ρ1 => match ρ1[i]? with | some (.own _) => WpE (fun q ρ2 => match ρ2[i]?, q with | some (.own xs), .int k => WpO (fun j => D.nx (ρ2.set i (.own (xs.set j p)))) (ixN xs.length k) | _, _ => False) D.ex (mi ρ1) | _ => False) D.ex (mv ρ) := by
  unfold mSetIx; rw [wp_sr]; congr; funext p ρ1; split <;> try simp_all only [ws_bad]
  rw [wp_sr]; congr; funext q ρ2; split <;> try simp_all
  split <;> try simp_all
/-! defs -/
@[simp] theorem wpP_runP {N : List Str} {m : MS} {ps : List PV} {Q : PV → Prop} {E : Exc → Prop} : WpP Q E (runP N m ps) = WpS { nx := fun _ => Q .non, rt := fun p _ => Q p, ex := fun x _ => E x } (m (startR N ps)) := by
  unfold runP; cases m (startR N ps) <;> rfl
@[simp] theorem wpF_runF {N : List Str} {m : MS} {ps : List PV} {Q : List PV → Prop} {E : Exc → Prop} : WpF Q E (runF N m ps) = WpS { rf := fun p _ => Q p, ex := fun x _ => E x } (m (startR N ps)) := by
  unfold runF; cases m (startR N ps) <;> rfl
@[simp] theorem wpB_runB {N : List Str} {m : MS} {xs ps : List PV} {Q : PV → List PV → Prop} {E : Exc → List PV → Prop} : WpB Q E (runB N m xs ps) = WpS { nx := fun ρ => WpO (fun ys => Q .non ys) (own0 ρ), rt := fun p ρ => WpO (fun ys => Q p ys) (own0 ρ), ex := fun x ρ => WpO (fun ys => E x ys) (own0 ρ) } (m (.own xs :: startR (N.drop 1) ps)) := by
  unfold runB
  cases m (.own xs :: startR (N.drop 1) ps) with
  | nx ρ => simp only [ws_nx]; cases own0 ρ <;> rfl
  | rt p ρ => simp only [ws_rt]; cases own0 ρ <;> rfl
  | exc x ρ => simp only [ws_exc]; cases own0 ρ <;> rfl
  | _ => rfl
theorem wpP_eq {r : Ret} {p : PV} : r = .ok p ↔ WpP (fun q => q = p) (fun _ => False) r := by
  cases r <;> simp [WpP]
theorem wpB_ex {r : RetB} {Q : PV → List PV → Prop} : (∃ p ys, r = .ok p ys ∧ Q p ys) ↔ WpB Q (fun _ _ => False) r := by
  cases r with
  | ok p ys => exact ⟨fun ⟨_, _, e, h⟩ => by cases e; exact h, fun h => ⟨_, _, rfl, h⟩⟩
  | exc x ys => exact ⟨fun ⟨_, _, e, _⟩ => (by cases e), fun h => h.elim⟩
  | bad => exact ⟨fun ⟨_, _, e, _⟩ => (by cases e), fun h => h.elim⟩
theorem wpP_ex {r : Ret} {Q : PV → Prop} : (∃ p, r = .ok p ∧ Q p) ↔ WpP Q (fun _ => False) r := by
  cases r <;> simp [WpP]
theorem WpB.mono {r : RetB} {Q Q' : PV → List PV → Prop} {E E' : Exc → List PV → Prop} (h : WpB Q E r) (k : ∀ p ys, Q p ys → Q' p ys) (e : ∀ x ys, E x ys → E' x ys) : WpB Q' E' r := by
  cases r <;> try simp_all [WpB]
theorem WpP.mono {r : Ret} {Q Q' : PV → Prop} {E E' : Exc → Prop} (h : WpP Q E r) (k : ∀ p, Q p → Q' p) (e : ∀ x, E x → E' x) : WpP Q' E' r := by
  cases r <;> try simp_all [WpP]
/-- by a def's word, with no refusal -/
theorem WpB.use {r : RetB} {Q Q' : PV → List PV → Prop} {E' : Exc → List PV → Prop} (h : WpB Q (fun _ _ => False) r) (k : ∀ p ys, Q p ys → Q' p ys) : WpB Q' E' r := h.mono k fun _ _ z => z.elim
theorem WpP.use {r : Ret} {Q Q' : PV → Prop} {E' : Exc → Prop} (h : WpP Q (fun _ => False) r) (k : ∀ p, Q p → Q' p) : WpP Q' E' r := h.mono k fun _ z => z.elim
@[simp] theorem wpP_ok {p : PV} {Q : PV → Prop} {E : Exc → Prop} : WpP Q E (.ok p) = Q p := rfl
@[simp] theorem wpF_ok {p : List PV} {Q : List PV → Prop} {E : Exc → Prop} : WpF Q E (.ok p) = Q p := rfl
@[simp] theorem wpP_exc {p : Exc} {Q : PV → Prop} {E : Exc → Prop} : WpP Q E (.exc p) = E p := rfl
@[simp] theorem wpB_ok {p : PV} {ys : List PV} {Q : PV → List PV → Prop} {E : Exc → List PV → Prop} : WpB Q E (.ok p ys) = Q p ys := rfl
theorem WpE.mono {α : Type} {r : Res (α × Rho)} {Q Q' : α → Rho → Prop} {E E' : Exc → Rho → Prop} (h : WpE Q E r) (k : ∀ p ρ, Q p ρ → Q' p ρ) (e : ∀ x ρ, E x ρ → E' x ρ) : WpE Q' E' r := by
  cases r with
  | ok z => obtain ⟨a, ρ⟩ := z; exact k _ _ h
  | exc x ρ => exact e _ _ h
  | bad => exact h
theorem WpS.mono {r : SR} {D D' : PR} (h : WpS D r) (h1 : ∀ ρ, D.nx ρ → D'.nx ρ) (h2 : ∀ p ρ, D.rt p ρ → D'.rt p ρ) (h3 : ∀ p ρ, D.rf p ρ → D'.rf p ρ) (h4 : ∀ ρ, D.bk ρ → D'.bk ρ) (h5 : ∀ ρ, D.ct ρ → D'.ct ρ) (h6 : ∀ x ρ, D.ex x ρ → D'.ex x ρ) : WpS D' r := by
  cases r <;> try simp_all
/-! loops -/
theorem ws_for {mi : MI} {g : MG} {b : MS} : WpS D (mFor mi g b ρ) = WpE (fun ps ρ1 => WpS D (forL g b ps ρ1)) D.ex (mi ρ) := by unfold mFor; rw [wp_sr]
@[simp] theorem ws_for' {mi : MI} {g : MG} {b : MS} : WpS D (mFor mi g b ρ) = WpE (fun ps ρ1 => WpS D (forL g b ps ρ1)) D.ex (mi ρ) := ws_for
@[simp] theorem ws_forNil {g : MG} {b : MS} : WpS D (forL g b [] ρ) = D.nx ρ := rfl
theorem ws_forCons {g : MG} {b : MS} {p : PV} {ps : List PV} : WpS D (forL g b (p :: ps) ρ) = WpO (fun ρ1 => WpS { D with nx := fun ρ2 => WpS D (forL g b ps ρ2), ct := fun ρ2 => WpS D (forL g b ps ρ2), bk := fun ρ2 => D.nx ρ2 } (b ρ1)) (g p ρ) := by
  rw [forL]
  cases g p ρ with
  | none => rfl
  | some ρ1 =>
    simp only [wo_some]
    cases b ρ1 <;> rfl
/-- a for by what holds ahead of each turn -/
theorem ws_forInv {g : MG} {b : MS} {D : PR} : ∀ {ps : List PV} {ρ : Rho} (I : Nat → Rho → Prop) (h0 : I 0 ρ)
    (hs : ∀ (i : Nat) p ρ, ps[i]? = some p → I i ρ → WpO (fun ρ1 => WpS { D with nx := I (i + 1), ct := I (i + 1), bk := D.nx } (b ρ1)) (g p ρ)) (he : ∀ ρ, I ps.length ρ → D.nx ρ), WpS D (forL g b ps ρ)
  | [], ρ, I, h0, hs, he => by simpa using he ρ h0
  | p :: ps, ρ, I, h0, hs, he => by
    rw [ws_forCons]
    have h1 := hs 0 p ρ rfl h0
    cases h : g p ρ with
    | none => rw [h] at h1; exact h1
    | some ρ0 =>
    rw [h] at h1
    simp only [wo_some] at h1 ⊢
    refine h1.mono (fun ρ1 q => ?_) (fun _ _ z => z) (fun _ _ z => z) (fun _ z => z) (fun ρ1 q => ?_) (fun _ _ z => z)
    all_goals exact ws_forInv (fun i => I (i + 1)) q (fun i p ρ e => hs (i + 1) p ρ (by simpa using e)) (fun ρ z => he ρ (by simpa using z))
theorem ws_whileInv {c : MT} {b : MS} {D : PR} (I : Nat → Rho → Prop) (hs : ∀ n ρ, I n ρ → WpE (fun k ρ1 => if k = true then WpS { D with nx := fun ρ2 => ∃ m, m < n ∧ I m ρ2, ct := fun ρ2 => ∃ m, m < n ∧ I m ρ2, bk := D.nx } (b ρ1) else D.nx ρ1) D.ex (c ρ)) : ∀ (n : Nat) (ρ : Rho), I n ρ → WpS D (mWhile c b ρ) := fun n => by
  induction n using Nat.strongRecOn with
  | _ n ih =>
    intro ρ h
    rw [mWhile_eq, wp_sr]
    refine (hs n ρ h).mono (fun k ρ1 q => ?_) fun _ _ z => z
    cases k with
    | false => exact q
    | true =>
      simp only [if_true] at q ⊢
      have q2 : WpS { D with nx := fun ρ2 => WpS D (mWhile c b ρ2), ct := fun ρ2 => WpS D (mWhile c b ρ2), bk := D.nx } (b ρ1) := by
        refine q.mono (fun ρ2 z => ?_) (fun _ _ z => z) (fun _ _ z => z) (fun _ z => z) (fun ρ2 z => ?_) (fun _ _ z => z)
        all_goals (obtain ⟨m, hm, z⟩ := z; exact ih m hm ρ2 z)
      cases hb : b ρ1 <;> rw [hb] at q2 <;> exact q2
theorem ws_whileEq {c : MT} {b : MS} {D : PR} : WpS D (mWhile c b ρ) = WpE (fun k ρ1 => if k = true then WpS { D with nx := fun ρ2 => WpS D (mWhile c b ρ2), ct := fun ρ2 => WpS D (mWhile c b ρ2), bk := fun ρ2 => D.nx ρ2 } (b ρ1) else D.nx ρ1) D.ex (c ρ) := by
  rw [mWhile_eq, wp_sr]; congr; funext k ρ1
  cases k with
  | false => rfl
  | true => simp only [if_true]; cases hb : b ρ1 <;> rfl
/-! comprehensions -/
def WpC (Q : List PV → Rho → Prop) (r : Tg Q (Res (List PV × Rho))) : Prop := WpE Q (fun _ _ => False) r
@[simp] theorem wp_comp {mi : MI} {g : MG} {t : MT} {e : M} {ws : List Nat} : WpE QA E (mComp mi g t e ws ρ) = WpE (fun ps ρ1 => WpC (fun ys ρ2 => QA ys (backR ρ1 ρ2 ws)) (compL g t e ws ps [] (wipeR ρ1 ws))) E (mi ρ) := by
  unfold mComp; rw [wp_bnd]; congr; funext ps ρ1; rw [wp_bnd]
  cases compL g t e ws ps [] (wipeR ρ1 ws) with
  | ok z => rfl
  | exc x ρ => rfl
  | bad => rfl
@[simp] theorem wpC_nil {g : MG} {t : MT} {e : M} {ws : List Nat} {acc : List PV} : WpC QA (compL g t e ws [] acc ρ) = QA acc ρ := rfl
theorem wpC_cons {g : MG} {t : MT} {e : M} {ws : List Nat} {acc ps : List PV} {p : PV} : WpC QA (compL g t e ws (p :: ps) acc ρ) = WpO (fun ρ1 => WpE (fun k ρ2 => if k = true then WpE (fun y ρ3 => if acc.length < sizeLine then WpC QA (compL g t e ws ps (acc ++ [y]) (wipeR ρ3 ws)) else False) (fun _ _ => False) (e ρ2) else WpC QA (compL g t e ws ps acc (wipeR ρ2 ws))) (fun _ _ => False) (t ρ1)) (g p ρ) := by
  unfold WpC
  rw [compL]
  cases g p ρ with
  | none => rfl
  | some ρ1 =>
    simp only [wo_some]
    cases t ρ1 with
    | bad => rfl
    | exc x ρ => rfl
    | ok z =>
      obtain ⟨k, ρ2⟩ := z
      cases k with
      | false => rfl
      | true =>
        simp only [wp_ok, if_true]
        cases e ρ2 with
        | bad => rfl
        | exc x ρ => rfl
        | ok z =>
          obtain ⟨y, ρ3⟩ := z
          simp only [wp_ok]
          split <;> rfl
/-- a comprehension by what holds ahead of each turn -/
theorem wpC_inv {g : MG} {t : MT} {e : M} {ws : List Nat} : ∀ {ps acc : List PV} {ρ : Rho} (I : Nat → List PV → Rho → Prop) (h0 : I 0 acc ρ)
    (hs : ∀ (i : Nat) p acc ρ, ps[i]? = some p → I i acc ρ → WpO (fun ρ1 => WpE (fun k ρ2 => if k = true then WpE (fun y ρ3 => acc.length < sizeLine ∧ I (i + 1) (acc ++ [y]) (wipeR ρ3 ws)) (fun _ _ => False) (e ρ2) else I (i + 1) acc (wipeR ρ2 ws)) (fun _ _ => False) (t ρ1)) (g p ρ))
    (he : ∀ acc ρ, I ps.length acc ρ → QA acc ρ), WpC QA (compL g t e ws ps acc ρ)
  | [], acc, ρ, I, h0, hs, he => he acc ρ h0
  | p :: ps, acc, ρ, I, h0, hs, he => by
    rw [wpC_cons]
    have h1 := hs 0 p acc ρ rfl h0
    cases h : g p ρ with
    | none => rw [h] at h1; exact h1
    | some ρ0 =>
    rw [h] at h1
    simp only [wo_some] at h1 ⊢
    refine h1.mono (fun k ρ1 q => ?_) fun _ _ z => z
    have rec_ : ∀ acc ρ, I 1 acc ρ → WpC QA (compL g t e ws ps acc ρ) := fun acc ρ z => wpC_inv (fun i => I (i + 1)) z (fun i p acc ρ e => hs (i + 1) p acc ρ (by simpa using e)) (fun acc ρ z => he acc ρ (by simpa using z))
    cases k with
    | false => exact rec_ _ _ q
    | true =>
      simp only [if_true] at q ⊢
      refine q.mono (fun y ρ3 q => ?_) fun _ _ z => z
      rw [if_pos q.1]
      exact rec_ _ _ q.2
/-- each item's own value, nothing else changed -/
theorem wpC_map {g : MG} {e : M} {ws : List Nat} {ps : List PV} {ρ : Rho} (h : PV → PV) (hl : ps.length ≤ sizeLine)
    (hs : ∀ p, p ∈ ps → WpO (fun ρ1 => WpE (fun y ρ3 => y = h p ∧ wipeR ρ3 ws = ρ) (fun _ _ => False) (e ρ1)) (g p ρ))
    (he : QA (ps.map h) ρ) : WpC QA (compL g mYes e ws ps [] ρ) := by
  refine wpC_inv (fun i acc ρ' => ρ' = ρ ∧ acc = (ps.take i).map h) ⟨rfl, rfl⟩ ?_ ?_
  · rintro i p acc ρ' ei ⟨rfl, rfl⟩
    have hm : p ∈ ps := List.mem_of_getElem? ei
    have h1 := hs p hm
    cases hg : g p ρ' with
    | none => rw [hg] at h1; exact h1.elim
    | some ρ0 =>
    rw [hg] at h1
    simp only [wo_some, wp_yes, if_true] at h1 ⊢
    refine h1.mono (fun y ρ3 q => ?_) fun _ _ z => z
    obtain ⟨rfl, q⟩ := q
    have hi : i < ps.length := by
      by_cases z : i < ps.length
      · exact z
      · rw [List.getElem?_eq_none (by omega)] at ei; cases ei
    refine ⟨by simp; omega, q, ?_⟩
    rw [List.take_add_one, ei]; simp
  · rintro acc ρ' ⟨rfl, rfl⟩
    simpa using he
end
end Ev

set_option maxHeartbeats 4000000
set_option Elab.async false
set_option linter.all false
set_option maxRecDepth 100000
namespace Ev
open PySem L2
abbrev n_is_number : List Str := ["thing"]
abbrev n_is_turn : List Str := ["thing", "way", "many"]
abbrev n_is_turns : List Str := ["thing", "part"]
abbrev n_joined : List Str := ["turns", "found", "way", "many"]
abbrev n_forgets : List Str := ["turns", "found", "at"]
abbrev n_with_turn : List Str := ["found", "turn", "way", "many", "front", "last", "midst", "first"]
abbrev n_forgotten : List Str := ["turns", "found", "turn"]
abbrev n_is_forgotten : List Str := ["thing"]
abbrev n_so_often : List Str := ["turns", "many", "found", "twice"]
abbrev n__law_box : List Str := ["_law_script", "_law_k", "_law_cell"]
abbrev n__law_take : List Str := ["_law_box_here", "_law_bound", "_law_found", "_law_once"]
abbrev n__law_same : List Str := ["_law_found", "_law_due", "_law_one", "_law_two"]
abbrev n__law_of : List Str := ["_law_box_here", "_law_some"]
abbrev n__law_told : List Str := ["_law_some", "_law_by", "_law_sense", "_law_told_here", "_law_at", "_law_long"]
abbrev n__law_known_right : List Str := ["_law_by", "_law_sense", "_law_rows", "_law_longs", "_law_left", "_law_spots", "_law_some", "_law_due"]
abbrev n__law_joined_right : List Str := ["_law_by", "_law_sense", "_law_reach", "_law_some", "_law_lead", "_law_told_here", "_law_due", "_law_odd", "_law_often"]
abbrev n_law : List Str := ["_law_script", "_law_k", "_law_box_here", "_law_by", "_law_sense"]
/-! is_number -/
def c_is_number : MS := mRet (mAndV (mCallB pvIsI [mName 0, mC (.ty "int")]) (mNotV (mCallB pvIsI [mName 0, mC (.ty "bool")])))
def f_is_number : FP := runP n_is_number c_is_number
/-! is_turn -/
def c_is_turn : MS := mSeq (mIfS (mOr (mNotT (mTest (mCallB pvIsI [mName 0, mC (.ty "tuple")]))) (mOr (mTest (m2 pvNe (mLenN 0) (mC (.int 2)))) (mNotT (mTest (mCallB pvIsI [mIxN 0 (mC (.int 0)), mC (.ty "str")]))))) (mRet (mC (.bl false))) (mNil)) (mSeq (mAsg (mgTup (mgCons (mgName 1) (mgCons (mgName 2) (mgNil)))) (mName 0)) (mRet (mAndV (m2 pvIn (mName 1) (mTup [mC (.str "forth"), mC (.str "back")])) (mAndV (mCall f_is_number [mName 2]) (m2 pvGe (mName 2) (mC (.int 1)))))))
def f_is_turn : FP := runP n_is_turn c_is_turn
/-! is_turns -/
def c_is_turns : MS := mRet (mAndV (mCallB pvIsI [mName 0, mC (.ty "list")]) (mCallB (on1 pvAll) [mFrz (mComp (mSeqI (mName 0)) (mgName 1) (mYes) (mCall f_is_turn [mName 1]) [1])]))
def f_is_turns : FP := runP n_is_turns c_is_turns
/-! joined -/
def c_joined : MS := mSeq (mSetF 1 (mArgs [])) (mSeq (mFor (mSeqI (mName 0)) (mgTup (mgCons (mgName 2) (mgCons (mgName 3) (mgNil)))) (mSeq (mIfS (mAnd (mTruthN 1) (mTest (m2 pvEq (m2 pvIx (mIxN 1 (m1 pvNeg (mC (.int 1)))) (mC (.int 0))) (mName 2)))) (mAug 3 pvAddI (m2 pvIx (mPopN 1) (mC (.int 1)))) (mNil)) (mAppend 1 (mTup [mName 2, mName 3])))) (mRet (mName 1)))
def f_joined : FP := runP n_joined c_joined
/-! forgets -/
def c_forgets : MS := mSeq (mSet 1 (mCall f_joined [mName 0])) (mRet (mFrz (mComp (mRange [mC (.int 1), m2 pvSub (mLenN 1) (mC (.int 1))]) (mgName 2) (mTest (m2 pvLe (m2 pvIx (mIxN 1 (mName 2)) (mC (.int 1))) (mCallB (pvMin) [m2 pvIx (mIxN 1 (m2 pvSub (mName 2) (mC (.int 1)))) (mC (.int 1)), m2 pvIx (mIxN 1 (m2 pvAdd (mName 2) (mC (.int 1)))) (mC (.int 1))]))) (mName 2) [2])))
def f_forgets : FP := runP n_forgets c_forgets
/-! with_turn -/
noncomputable def c_with_turn : MS := mSeq (mAsg (mgTup (mgCons (mgName 2) (mgCons (mgName 3) (mgNil)))) (mName 1)) (mSeq (mSetF 4 (mCallF pvList [mName 0])) (mSeq (mIfS (mAnd (mTruthN 4) (mTest (m2 pvEq (m2 pvIx (mIxN 4 (m1 pvNeg (mC (.int 1)))) (mC (.int 0))) (mName 2)))) (mAug 3 pvAddI (m2 pvIx (mPopN 4) (mC (.int 1)))) (mNil)) (mSeq (mAppend 4 (mTup [mName 2, mName 3])) (mSeq (mWhile (mAnd (mTest (m2 pvGt (mLenN 4) (mC (.int 2)))) (mTest (m2 pvLe (m2 pvIx (mIxN 4 (m1 pvNeg (mC (.int 2)))) (mC (.int 1))) (mCallB (pvMin) [m2 pvIx (mIxN 4 (m1 pvNeg (mC (.int 3)))) (mC (.int 1)), m2 pvIx (mIxN 4 (m1 pvNeg (mC (.int 1)))) (mC (.int 1))])))) (mSeq (mPar3 5 6 7 [mPopN 4, mPopN 4, mPopN 4]) (mAppend 4 (mTup [mName 2, m2 pvAdd (m2 pvSub (mIxN 7 (mC (.int 1))) (mIxN 6 (mC (.int 1)))) (mIxN 5 (mC (.int 1)))])))) (mRet (mName 4))))))
noncomputable def f_with_turn : FP := runP n_with_turn c_with_turn
/-! forgotten -/
noncomputable def c_forgotten : MS := mSeq (mSet 1 (mFrz (mArgs []))) (mSeq (mFor (mSeqI (mName 0)) (mgName 2) (mSet 1 (mCall f_with_turn [mName 1, mCallB (on1 pvTuple) [mName 2]]))) (mRet (mName 1)))
noncomputable def f_forgotten : FP := runP n_forgotten c_forgotten
/-! is_forgotten -/
noncomputable def c_is_forgotten : MS := mRet (mAndV (mCall f_is_turns [mName 0]) (m2 pvEq (mCall f_forgotten [mName 0]) (mName 0)))
noncomputable def f_is_forgotten : FP := runP n_is_forgotten c_is_forgotten
/-! so_often -/
noncomputable def c_so_often : MS := mSeq (mPar 2 3 [mFrz (mArgs []), mCall f_forgotten [mName 0]]) (mSeq (mWhile (mTest (m2 pvGt (mName 1) (mC (.int 0)))) (mSeq (mIfS (mTest (m2 pvEq (m2 pvMod (mName 1) (mC (.int 2))) (mC (.int 1)))) (mSet 2 (mCall f_forgotten [m2 pvAdd (mName 2) (mName 3)])) (mNil)) (mSeq (mAug 1 pvDiv (mC (.int 2))) (mIfS (mTest (m2 pvGt (mName 1) (mC (.int 0)))) (mSet 3 (mCall f_forgotten [m2 pvAdd (mName 3) (mName 3)])) (mNil))))) (mRet (mName 2)))
noncomputable def f_so_often : FP := runP n_so_often c_so_often
/-! _law_box -/
def c__law_box : MS := mSeq (mSet 2 (mC (.int 0))) (mSeq (mIfS (mTest (m2 pvLt (mName 1) (mLenN 0))) (mSet 2 (mIxN 0 (mName 1))) (mNil)) (mRetF (mArgs [m2 pvMul (mCallB (on1 pvAbs) [mName 2]) (mCallB (on1 pvInt) [m2 pvGe (mCallB (on1 pvAbs) [mName 2]) (m2 pvPow (mC (.int 10)) (mC (.int 18)))]), m2 pvAdd (m2 pvAdd (m2 pvMod (mName 2) (mC (.int 2147483629))) (m2 pvMul (mC (.int 7919)) (mName 1))) (mC (.int 11)), mC (.int 0)])))
def f__law_box : FF := runF n__law_box c__law_box
/-! _law_take -/
def c__law_take : MS := mSeq (mIfS (mTest (m2 pvGt (mIxN 0 (mC (.int 0))) (mC (.int 0)))) (mSeq (mSet 2 (m2 pvMod (mIxN 0 (mC (.int 0))) (mName 1))) (mSeq (mSetIx 0 (mC (.int 0)) (m2 pvDiv (mIxN 0 (mC (.int 0))) (mName 1))) (mRet (mName 2)))) (mNil)) (mSeq (mSetIx 0 (mC (.int 2)) (m2 pvAdd (mIxN 0 (mC (.int 2))) (mC (.int 1)))) (mSeq (mSet 3 (m2 pvMod (m2 pvPow (m2 pvAdd (mIxN 0 (mC (.int 1))) (m2 pvMul (mC (.int 39373)) (mIxN 0 (mC (.int 2))))) (mC (.int 5))) (mC (.int 2147483647)))) (mRet (m2 pvMod (m2 pvDiv (m2 pvMod (m2 pvAdd (m2 pvMul (mName 3) (m2 pvAdd (m2 pvMod (mName 3) (mC (.int 40009))) (mC (.int 7)))) (m2 pvMul (mIxN 0 (mC (.int 2))) (mC (.int 7919)))) (mC (.int 2147483629))) (mC (.int 64))) (mName 1)))))
def f__law_take : FB := runB n__law_take c__law_take
/-! _law_same -/
def c__law_same (f : FP) : MS := mSeq (mIfS (mTest (mCallB pvIsI [mName 1, mTup [mC (.ty "list"), mC (.ty "tuple")]])) (mSeq (mIfS (mOr (mTest (m2 pvNe (mCallB pvIsI [mName 0, mC (.ty "list")]) (mCallB pvIsI [mName 1, mC (.ty "list")]))) (mTest (m2 pvNe (mCallB pvIsI [mName 0, mC (.ty "tuple")]) (mCallB pvIsI [mName 1, mC (.ty "tuple")])))) (mRet (mC (.bl false))) (mNil)) (mSeq (mIfS (mTest (m2 pvNe (mLenN 0) (mLenN 1))) (mRet (mC (.bl false))) (mNil)) (mRet (mCallB (on1 pvAll) [mFrz (mComp (mZip [mName 0, mName 1]) (mgTup (mgCons (mgName 2) (mgCons (mgName 3) (mgNil)))) (mYes) (mCall f [mName 2, mName 3]) [2, 3])])))) (mNil)) (mSeq (mIfS (mOr (mTest (m2 pvIs (mName 1) (mC .non))) (mTest (mCallB pvIsI [mName 1, mC (.ty "str")]))) (mRet (mAndV (m2 pvEq (mName 0) (mName 1)) (m2 pvEq (mCallB pvIsI [mName 0, mC (.ty "str")]) (mCallB pvIsI [mName 1, mC (.ty "str")])))) (mNil)) (mRet (mAndV (mCallB pvIsI [mName 0, mC (.ty "int")]) (mAndV (m2 pvEq (mCallB pvIsI [mName 0, mC (.ty "bool")]) (mCallB pvIsI [mName 1, mC (.ty "bool")])) (m2 pvEq (mName 0) (mName 1))))))
def f__law_same : Nat → FP
  | 0 => fun _ => .bad
  | n + 1 => runP n__law_same (c__law_same (f__law_same n))
/-! _law_of -/
def c__law_of : MS := mRet (mIxN 1 (mCallBx f__law_take 0 [mLenN 1]))
def f__law_of : FB := runB n__law_of c__law_of
/-! _law_told -/
def c__law_told : MS := mSeq (mParF 3 4 (mArgs []) (mIndex (mFrz (mArgs [mC (.str "forth"), mC (.str "back")])) (mName 2))) (mSeq (mFor (mSeqI (mName 0)) (mgName 5) (mSeq (mAppend 3 (mTup [m2 pvIx (mFrz (mArgs [mC (.str "forth"), mC (.str "back")])) (mName 4), m2 pvMul (mName 5) (mName 1)])) (mSet 4 (m2 pvSub (mC (.int 1)) (mName 4))))) (mRet (mName 3)))
def f__law_told : FP := runP n__law_told c__law_told
/-! _law_known_right -/
noncomputable def c__law_known_right : MS := mSeq (mSetF 2 (mArgs [mTup [mFrz (mArgs [mC (.int 5), mC (.int 2), mC (.int 3)]), mFrz (mArgs [mC (.int 6)]), mFrz (mArgs [mC (.int 1)])], mTup [mFrz (mArgs [mC (.int 5), mC (.int 5), mC (.int 5)]), mFrz (mArgs [mC (.int 5)]), mFrz (mArgs [mC (.int 1)])], mTup [mFrz (mArgs [mC (.int 5), mC (.int 5), mC (.int 3)]), mFrz (mArgs [mC (.int 5), mC (.int 5), mC (.int 3)]), mFrz (mArgs [])], mTup [mFrz (mArgs [mC (.int 3), mC (.int 5), mC (.int 5)]), mFrz (mArgs [mC (.int 3), mC (.int 5), mC (.int 5)]), mFrz (mArgs [])]])) (mSeq (mSetF 2 (mCat (mName 2) (mFrz (mArgs [mTup [mFrz (mArgs [mC (.int 3), mC (.int 3), mC (.int 5)]), mFrz (mArgs [mC (.int 5)]), mFrz (mArgs [mC (.int 1)])], mTup [mFrz (mArgs [mC (.int 2), mC (.int 5), mC (.int 5), mC (.int 2)]), mFrz (mArgs [mC (.int 2), mC (.int 5), mC (.int 5), mC (.int 2)]), mFrz (mArgs [])], mTup [mFrz (mArgs [mC (.int 1), mC (.int 2), mC (.int 3), mC (.int 2), mC (.int 1)]), mFrz (mArgs [mC (.int 1), mC (.int 2), mC (.int 3), mC (.int 2), mC (.int 1)]), mFrz (mArgs [])]])))) (mSeq (mSetF 2 (mCat (mName 2) (mFrz (mArgs [mTup [mFrz (mArgs [mC (.int 3), mC (.int 2), mC (.int 1), mC (.int 2), mC (.int 3)]), mFrz (mArgs [mC (.int 3)]), mFrz (mArgs [mC (.int 2)])], mTup [mFrz (mArgs [mC (.int 5), mC (.int 1), mC (.int 4), mC (.int 2), mC (.int 6)]), mFrz (mArgs [mC (.int 12)]), mFrz (mArgs [mC (.int 1), mC (.int 3)])], mTup [mFrz (mArgs [mC (.int 4), mC (.int 4)]), mFrz (mArgs [mC (.int 4), mC (.int 4)]), mFrz (mArgs [])], mTup [mFrz (mArgs [mC (.int 7)]), mFrz (mArgs [mC (.int 7)]), mFrz (mArgs [])]])))) (mSeq (mSetF 2 (mCat (mName 2) (mFrz (mArgs [mTup [mFrz (mArgs [mC (.int 1), mC (.int 1), mC (.int 1), mC (.int 1)]), mFrz (mArgs [mC (.int 1), mC (.int 1)]), mFrz (mArgs [mC (.int 1), mC (.int 2)])], mTup [mFrz (mArgs [mC (.int 2), mC (.int 1), mC (.int 2), mC (.int 4), mC (.int 3)]), mFrz (mArgs [mC (.int 3), mC (.int 4), mC (.int 3)]), mFrz (mArgs [mC (.int 1)])]])))) (mSeq (mAppend 2 (mTup [mFrz (mArgs [mC (.int 1), mC (.int 3), mC (.int 2), mC (.int 2), mC (.int 3), mC (.int 1)]), mFrz (mArgs [mC (.int 1), mC (.int 3), mC (.int 3), mC (.int 1)]), mFrz (mArgs [mC (.int 2), mC (.int 3)])])) (mSeq (mFor (mSeqI (mName 2)) (mgTup (mgCons (mgName 3) (mgCons (mgName 4) (mgCons (mgName 5) (mgNil))))) (mSeq (mSet 6 (mCall f__law_told [mName 3, mName 0, mName 1])) (mSeq (mSet 7 (mCall f__law_told [mName 4, mName 0, mName 1])) (mIfS (mNotT (mTest (mCall (f__law_same 6) [mFrz (mArgs [mCall f_forgotten [mName 6], mCall f_forgets [mName 6], mCall f_is_forgotten [mName 6]]), mFrz (mArgs [mName 7, mName 5, m2 pvEq (mName 5) (mFrz (mArgs []))])]))) (mRet (mC (.bl false))) (mNil))))) (mRet (mC (.bl true))))))))
noncomputable def f__law_known_right : FP := runP n__law_known_right c__law_known_right
/-! _law_joined_right -/
noncomputable def c__law_joined_right : MS := mSeq (mSet 2 (m2 pvDix (mDict [.inr "forth", .inr "back"] [mC (.str "back"), mC (.str "forth")]) (mName 1))) (mSeq (mSet 3 (mFrz (mArgs [mTup [mName 1, m2 pvMul (mC (.int 2)) (mName 0)], mTup [mName 2, m2 pvMul (mC (.int 2)) (mName 0)], mTup [mName 2, mName 0], mTup [mName 1, m2 pvMul (mC (.int 2)) (mName 0)], mTup [mName 1, mName 0]]))) (mSeq (mIfS (mNotT (mTest (mCall (f__law_same 6) [mFrz (mArgs [mCall f_joined [mName 3], mCall f_forgets [mName 3]]), mFrz (mArgs [mFrz (mArgs [mTup [mName 1, m2 pvMul (mC (.int 2)) (mName 0)], mTup [mName 2, m2 pvMul (mC (.int 3)) (mName 0)], mTup [mName 1, m2 pvMul (mC (.int 3)) (mName 0)]]), mFrz (mArgs [])])]))) (mRet (mC (.bl false))) (mNil)) (mSeq (mIfS (mOr (mNotT (mTest (mCall (f__law_same 6) [mCall f_forgotten [mName 3], mCall f_joined [mName 3]]))) (mTest (m2 pvIsNot (mCall f_is_forgotten [mName 3]) (mC (.bl false))))) (mRet (mC (.bl false))) (mNil)) (mSeq (mSet 4 (mFrz (mArgs [mTup [mName 1, m2 pvMul (mC (.int 3)) (mName 0)], mTup [mName 2, m2 pvMul (mC (.int 2)) (mName 0)]]))) (mSeq (mSetF 5 (mComp (mSeqI (mTup [mC (.int 0), mC (.int 1), mC (.int 2), m2 pvPow (mC (.int 10)) (mC (.int 12))])) (mgName 8) (mYes) (mCall f_so_often [mName 4, mName 8]) [8])) (mSeq (mSetF 6 (mComp (mSeqI (mTup [mC (.int 1), mC (.int 2), m2 pvPow (mC (.int 10)) (mC (.int 12))])) (mgName 8) (mYes) (mFrz (mArgs [mTup [mName 1, m2 pvMul (m2 pvAdd (mC (.int 2)) (mName 8)) (mName 0)], mTup [mName 2, m2 pvMul (mC (.int 2)) (mName 0)]])) [8])) (mSeq (mIfS (mNotT (mTest (mCall (f__law_same 6) [mName 5, m2 pvAdd (mFrz (mArgs [mFrz (mArgs [])])) (mName 6)]))) (mRet (mC (.bl false))) (mNil)) (mSeq (mSet 7 (mFrz (mArgs [mTup [mName 1, mName 0], mTup [mName 2, m2 pvMul (mC (.int 3)) (mName 0)], mTup [mName 1, mName 0]]))) (mSeq (mSetF 5 (mComp (mSeqI (mTup [mC (.int 1), mC (.int 2), mC (.int 3)])) (mgName 8) (mYes) (mCall f_so_often [mName 7, mName 8]) [8])) (mSeq (mSet 6 (mFrz (mArgs [mName 7, mFrz (mArgs [mTup [mName 1, mName 0], mTup [mName 2, m2 pvMul (mC (.int 4)) (mName 0)], mTup [mName 1, mName 0]]), mFrz (mArgs [mTup [mName 1, mName 0], mTup [mName 2, m2 pvMul (mC (.int 5)) (mName 0)], mTup [mName 1, mName 0]])]))) (mRet (mCall (f__law_same 6) [mName 5, mName 6]))))))))))))
noncomputable def f__law_joined_right : FP := runP n__law_joined_right c__law_joined_right
/-! law -/
noncomputable def c_law : MS := mSeq (mFor (mRange [mCallB (pvMax) [mC (.int 1), mCallB (pvMin) [mC (.int 3), mLenN 0]]]) (mgName 1) (mSeq (mSetF 2 (mCallFr f__law_box [mName 0, mName 1])) (mFor (mSeqI (mTup [mC (.int 1), mCallBx f__law_of 2 [mFrz (mArgs [mC (.int 2), m2 pvPow (mC (.int 10)) (mC (.int 6)), m2 pvPow (mC (.int 10)) (mC (.int 10))])], m2 pvAdd (mC (.int 1)) (mCallBx f__law_take 2 [m2 pvPow (mC (.int 10)) (mC (.int 7))])])) (mgName 3) (mFor (mSeqI (mTup [mC (.str "forth"), mC (.str "back")])) (mgName 4) (mIfS (mOr (mNotT (mTest (mCall f__law_known_right [mName 3, mName 4]))) (mNotT (mTest (mCall f__law_joined_right [mName 3, mName 4])))) (mRet (mC (.bl false))) (mNil)))))) (mRet (mC (.bl true)))
noncomputable def f_law : FP := runP n_law c_law
end Ev

set_option Elab.async false
set_option linter.all false
set_option maxRecDepth 100000
namespace Ev
open PySem L2
theorem hu65 {k : Nat} {A : Around} (r : Room k A) : A.units + 65 < cLine := by have := r.un; omega
/-! ### defs as the top has left them -/
structure DefAt (K : PySem.W.Frag) (mg : Str → Option Value) (x : Str) (st : Stmt) (ps : List Str) (f : Addr) (fd : FuncData) : Prop where
  m : mg x = some (.ref f)
  F : Fun K x x st f fd
  b : Binds K fd ps []
  bt : ∀ (s : Shared) (us : List Value), us.length = ps.length → BindsTo s fd ⟨us, []⟩ (ps.zip us)
theorem def_at {K : PySem.W.Frag} {mg : Str → Option Value} {h : Heap} (X : K.In h) (G : h.Ns mainGlobals mg) {fa : List He.Fa} {fn : List He.FnD} (c : He.SaysE fa fn K) {x : Str} {st : Stmt} {ps : List Str} (i j : Nat)
    (hd : fn[i]? = some ⟨(x, none), x, x, defArgs st, defBody st, defScope st⟩) (hg : fa[j]? = some (.glo x)) (hk : fa[j + 1]? = some (.keep x))
    (hb : ∀ (kV doc pm : Value) (an : Option Addr) (cdv ct : Value) (us : List Value), us.length = ps.length → bindArgs (PySem.W.fnOf x x (defArgs st) (defBody st) (defScope st) .none kV doc pm an cdv ct) ⟨us, []⟩ = pure (ps.zip us)) :
    ∃ fd, DefAt K mg x st ps (He.ga K x) fd := by
  obtain ⟨oc, od, osl, kV, doc, pm, an, cdv, ct, l, cc⟩ := c.def_ i hd
  have F := fun_mk (st := st) l cc (He.keep_ok (c.fact (j + 1) hk))
  exact ⟨_, He.glo_ok X G (c.fact j hg), F, F.binds hb, fun s us hl => .of_eq (hb kV doc pm an cdv ct us hl)⟩
theorem fn_calm {P : Program} {w : World} {K : PySem.W.Frag} {mg : Str → Option Value} {base : Heap} {k : Nat} {f : Addr} {fd : FuncData} {ps : List Str} {sp : Sp} (F : FnOk P w K mg base (L2.CX P w) k f fd ps sp) :
    FnOk P w K mg base CX0 k f fd ps (fun vs H Q _ => sp vs H Q (fun _ _ _ => False)) :=
  ⟨fun vs H Q _ h => F.len vs H Q _ h, fun A outer s H args us vs Q E hr he hb hv hs => codeAny_mono (F.run A outer s H args us vs Q _ hr he hb hv hs) fun r s' q => by
    cases r with
    | ok u => cases u with
      | ret v => exact q
      | _ => exact q
    | error e => obtain ⟨_, _, _, _, _, _, _, _, _, _, _, _, z⟩ := q; exact z⟩
/-- the law's own word from its mirror's -/
theorem sp_law {K : PySem.W.Frag} {mg : Str → Option Value} {f : FP} (h : ∀ ns : List Int, ns.length ≤ 63 → f [.scr ns] = .ok (.bl true)) (H : Hp) (a : Addr) (ns : List Int) (hl : ns.length ≤ 63) (hS : SqL K H a (ns.map V.int)) :
    spP K mg 1 f [.ref a] H (fun v _ => v = .bl true) (fun _ _ _ => False) := by
  refine ⟨rfl, H, [.scr ns], Same.refl _, Reps.cons (by unfold Rep; exact ⟨a, rfl, hS⟩) Reps.nil, ?_⟩
  rw [h ns hl]
  intro F' H' v _ _ _ _ r
  unfold Rep at r
  exact r
theorem law_end {P : Program} {w : World} {K : PySem.W.Frag} {mg : Str → Option Value} {h : Heap} {fa : Addr} {fd : FuncData} {st : Stmt} {x y : Str} {k : Nat} {f : FP} (KX : K.In h) (hmg : mg x = some (.ref fa)) {f0 : Addr} (d : DefAt K mg x st [y] f0 fd)
    (ok : ∀ base : Heap, FnOk P w K mg base (L2.CX P w) k f0 fd [y] (spP K mg 1 f)) (hl : ∀ ns : List Int, ns.length ≤ 63 → f [.scr ns] = .ok (.bl true)) :
    ∃ (K : PySem.W.Frag) (fd : FuncData) (sp : Sp), K.In h ∧ (∀ (s : Shared) (u : Value), BindsTo s fd ⟨[u], []⟩ [(y, u)]) ∧
        (∀ (H : Hp) (a : Addr) (ns : List Int), ns.length ≤ 63 → Only H → SqL K H a (ns.map V.int) → sp [.ref a] H (fun v _ => v = .bl true) fun _ _ _ => False) ∧
        ∀ base : Heap, K.In base → base.Ns mainGlobals mg → FnOk P w K mg base CX0 k fa fd [y] sp := by
  have e : f0 = fa := by
    have e1 := d.m.symm.trans hmg
    injection e1 with e1
    injection e1
  subst e
  exact ⟨K, fd, (fun vs H Q _ => spP K mg 1 f vs H Q (fun _ _ _ => False)), KX, fun s v => d.bt s [v] rfl, fun H a ns hl' _ hS => sp_law hl H a ns hl' hS, fun base _ _ => fn_calm (ok base)⟩
end Ev

set_option maxHeartbeats 4000000
set_option Elab.async false
set_option linter.all false
set_option maxRecDepth 100000
namespace Ev
open PySem L2
/-! the text by places -/
def topS (i : Nat) : Stmt := PySem.Challenge.pw_forthback_k16_turns_known_by_hand.main.body.getD i (.Pass ⟨0, 0, 0, 0⟩)
abbrev st_is_number : Stmt := topS 1
abbrev st_is_turn : Stmt := topS 5
abbrev st_is_turns : Stmt := topS 6
abbrev st_joined : Stmt := topS 7
abbrev st_forgets : Stmt := topS 8
abbrev st_with_turn : Stmt := topS 9
abbrev st_forgotten : Stmt := topS 10
abbrev st_is_forgotten : Stmt := topS 11
abbrev st_so_often : Stmt := topS 12
abbrev st__law_box : Stmt := topS 14
abbrev st__law_take : Stmt := topS 15
abbrev st__law_same : Stmt := topS 16
abbrev st__law_of : Stmt := topS 17
abbrev st__law_told : Stmt := topS 18
abbrev st__law_known_right : Stmt := topS 19
abbrev st__law_joined_right : Stmt := topS 20
abbrev st_law : Stmt := topS 21
theorem sc_is_number : FnScope n_is_number ["thing"] (defScope st_is_number) := ⟨rfl, rfl, rfl, by decide +kernel, rfl, by decide +kernel, by decide +kernel⟩
theorem sc_is_turn : FnScope n_is_turn ["thing"] (defScope st_is_turn) := ⟨rfl, rfl, rfl, by decide +kernel, rfl, by decide +kernel, by decide +kernel⟩
theorem sc_is_turns : FnScope n_is_turns ["thing"] (defScope st_is_turns) := ⟨rfl, rfl, rfl, by decide +kernel, rfl, by decide +kernel, by decide +kernel⟩
theorem sc_joined : FnScope n_joined ["turns"] (defScope st_joined) := ⟨rfl, rfl, rfl, by decide +kernel, rfl, by decide +kernel, by decide +kernel⟩
theorem sc_forgets : FnScope n_forgets ["turns"] (defScope st_forgets) := ⟨rfl, rfl, rfl, by decide +kernel, rfl, by decide +kernel, by decide +kernel⟩
theorem sc_with_turn : FnScope n_with_turn ["found", "turn"] (defScope st_with_turn) := ⟨rfl, rfl, rfl, by decide +kernel, rfl, by decide +kernel, by decide +kernel⟩
theorem sc_forgotten : FnScope n_forgotten ["turns"] (defScope st_forgotten) := ⟨rfl, rfl, rfl, by decide +kernel, rfl, by decide +kernel, by decide +kernel⟩
theorem sc_is_forgotten : FnScope n_is_forgotten ["thing"] (defScope st_is_forgotten) := ⟨rfl, rfl, rfl, by decide +kernel, rfl, by decide +kernel, by decide +kernel⟩
theorem sc_so_often : FnScope n_so_often ["turns", "many"] (defScope st_so_often) := ⟨rfl, rfl, rfl, by decide +kernel, rfl, by decide +kernel, by decide +kernel⟩
theorem sc__law_box : FnScope n__law_box ["_law_script", "_law_k"] (defScope st__law_box) := ⟨rfl, rfl, rfl, by decide +kernel, rfl, by decide +kernel, by decide +kernel⟩
theorem sc__law_take : FnScope n__law_take ["_law_box_here", "_law_bound"] (defScope st__law_take) := ⟨rfl, rfl, rfl, by decide +kernel, rfl, by decide +kernel, by decide +kernel⟩
theorem sc__law_same : FnScope n__law_same ["_law_found", "_law_due"] (defScope st__law_same) := ⟨rfl, rfl, rfl, by decide +kernel, rfl, by decide +kernel, by decide +kernel⟩
theorem sc__law_of : FnScope n__law_of ["_law_box_here", "_law_some"] (defScope st__law_of) := ⟨rfl, rfl, rfl, by decide +kernel, rfl, by decide +kernel, by decide +kernel⟩
theorem sc__law_told : FnScope n__law_told ["_law_some", "_law_by", "_law_sense"] (defScope st__law_told) := ⟨rfl, rfl, rfl, by decide +kernel, rfl, by decide +kernel, by decide +kernel⟩
theorem sc__law_known_right : FnScope n__law_known_right ["_law_by", "_law_sense"] (defScope st__law_known_right) := ⟨rfl, rfl, rfl, by decide +kernel, rfl, by decide +kernel, by decide +kernel⟩
theorem sc__law_joined_right : FnScope n__law_joined_right ["_law_by", "_law_sense"] (defScope st__law_joined_right) := ⟨rfl, rfl, rfl, by decide +kernel, rfl, by decide +kernel, by decide +kernel⟩
theorem sc_law : FnScope n_law ["_law_script"] (defScope st_law) := ⟨rfl, rfl, rfl, by decide +kernel, rfl, by decide +kernel, by decide +kernel⟩
structure Top (K : PySem.W.Frag) (mg : Str → Option Value) where
  f_is_number : Addr
  fd_is_number : FuncData
  d_is_number : DefAt K mg "is_number" st_is_number ["thing"] f_is_number fd_is_number
  f_is_turn : Addr
  fd_is_turn : FuncData
  d_is_turn : DefAt K mg "is_turn" st_is_turn ["thing"] f_is_turn fd_is_turn
  f_is_turns : Addr
  fd_is_turns : FuncData
  d_is_turns : DefAt K mg "is_turns" st_is_turns ["thing"] f_is_turns fd_is_turns
  f_joined : Addr
  fd_joined : FuncData
  d_joined : DefAt K mg "joined" st_joined ["turns"] f_joined fd_joined
  f_forgets : Addr
  fd_forgets : FuncData
  d_forgets : DefAt K mg "forgets" st_forgets ["turns"] f_forgets fd_forgets
  f_with_turn : Addr
  fd_with_turn : FuncData
  d_with_turn : DefAt K mg "with_turn" st_with_turn ["found", "turn"] f_with_turn fd_with_turn
  f_forgotten : Addr
  fd_forgotten : FuncData
  d_forgotten : DefAt K mg "forgotten" st_forgotten ["turns"] f_forgotten fd_forgotten
  f_is_forgotten : Addr
  fd_is_forgotten : FuncData
  d_is_forgotten : DefAt K mg "is_forgotten" st_is_forgotten ["thing"] f_is_forgotten fd_is_forgotten
  f_so_often : Addr
  fd_so_often : FuncData
  d_so_often : DefAt K mg "so_often" st_so_often ["turns", "many"] f_so_often fd_so_often
  f__law_box : Addr
  fd__law_box : FuncData
  d__law_box : DefAt K mg "_law_box" st__law_box ["_law_script", "_law_k"] f__law_box fd__law_box
  f__law_take : Addr
  fd__law_take : FuncData
  d__law_take : DefAt K mg "_law_take" st__law_take ["_law_box_here", "_law_bound"] f__law_take fd__law_take
  f__law_same : Addr
  fd__law_same : FuncData
  d__law_same : DefAt K mg "_law_same" st__law_same ["_law_found", "_law_due"] f__law_same fd__law_same
  f__law_of : Addr
  fd__law_of : FuncData
  d__law_of : DefAt K mg "_law_of" st__law_of ["_law_box_here", "_law_some"] f__law_of fd__law_of
  f__law_told : Addr
  fd__law_told : FuncData
  d__law_told : DefAt K mg "_law_told" st__law_told ["_law_some", "_law_by", "_law_sense"] f__law_told fd__law_told
  f__law_known_right : Addr
  fd__law_known_right : FuncData
  d__law_known_right : DefAt K mg "_law_known_right" st__law_known_right ["_law_by", "_law_sense"] f__law_known_right fd__law_known_right
  f__law_joined_right : Addr
  fd__law_joined_right : FuncData
  d__law_joined_right : DefAt K mg "_law_joined_right" st__law_joined_right ["_law_by", "_law_sense"] f__law_joined_right fd__law_joined_right
  f_law : Addr
  fd_law : FuncData
  d_law : DefAt K mg "law" st_law ["_law_script"] f_law fd_law
  z_abs : mg "abs" = none
  z_all : mg "all" = none
  z_bool : mg "bool" = none
  z_int : mg "int" = none
  z_isinstance : mg "isinstance" = none
  z_len : mg "len" = none
  z_list : mg "list" = none
  z_max : mg "max" = none
  z_min : mg "min" = none
  z_range : mg "range" = none
  z_str : mg "str" = none
  z_tuple : mg "tuple" = none
  z_zip : mg "zip" = none
  g_FORTH : ∃ t, mg "FORTH" = some (.str "forth" t)
  g_BACK : ∃ t, mg "BACK" = some (.str "back" t)
section
variable {P : Program} {w : World} {K : PySem.W.Frag} {mg : Str → Option Value} {base : Heap}
theorem ok_is_number (T : Top K mg) : FnOk P w K mg base (L2.CX P w) 1 T.f_is_number T.fd_is_number ["thing"] (spP K mg 1 f_is_number) :=
  fn_pure (k := 0) (m := c_is_number) T.d_is_number.F sc_is_number (by decide) fun cdv A outer s H E hr c => ss_one (st_ret (s_and (s_isi (by rfl) T.z_isinstance (s_name 0 (pv 0)) (s_ty (by rfl) T.z_int (by decide +kernel))) (s_one (s_not (s_isi (by rfl) T.z_isinstance (s_name 0 (pv 0)) (s_ty (by rfl) T.z_bool (by decide +kernel)))))))
theorem ok_is_turn (T : Top K mg) : FnOk P w K mg base (L2.CX P w) 2 T.f_is_turn T.fd_is_turn ["thing"] (spP K mg 1 f_is_turn) :=
  fn_pure (k := 1) (m := c_is_turn) T.d_is_turn.F sc_is_turn (by decide) fun cdv A outer s H E hr c => ss_cons (st_if ((w_or (t_not (t_truth (s_isi (by rfl) T.z_isinstance (s_name 0 (pv 0)) (s_ty (by rfl) T.z_tuple (by decide +kernel))))) (w_or (t_ne (s_lenN 0 (by rfl) T.z_len (pv 0)) (s_int) c.hu) (w_or1 (t_not (t_truth (s_isi (by rfl) T.z_isinstance (s_ixN 0 (pv 0) (s_int)) (s_ty (by rfl) T.z_str (by decide +kernel)))))))).t) (ss_one (st_ret (s_bl))) (ss_nil)) (ss_cons (st_asg (ws := [1, 2]) (s_name 0 (pv 0)) (g_tup c (gs_cons (g_name (i := 1) c rfl (by first | exact .inl rfl | exact .inr rfl) (.inl rfl) (by decide)) (gs_cons (g_name (i := 2) c rfl (by first | exact .inl rfl | exact .inr rfl) (.inl rfl) (by decide)) (gs_nil))) (len_cons (len_cons (len_nil))))) (ss_one (st_ret (s_and (s_in (s_name 1 (pv 1)) (s_tup (sa_cons (s_gstr (by rfl) T.g_FORTH) (sa_cons (s_gstr (by rfl) T.g_BACK) (sa_nil))))) (s_and (s_call c (ok_is_number T) (hr.mono (by decide)) (by rfl) T.d_is_number.m T.d_is_number.F.kp T.d_is_number.b (sa_cons (s_name 2 (pv 2)) (sa_nil))) (s_one (s_ge (s_name 2 (pv 2)) (s_int))))))))
theorem ok_is_turns (T : Top K mg) : FnOk P w K mg base (L2.CX P w) 3 T.f_is_turns T.fd_is_turns ["thing"] (spP K mg 1 f_is_turns) :=
  fn_pure (k := 2) (m := c_is_turns) T.d_is_turns.F sc_is_turns (by decide) fun cdv A outer s H E hr c => ss_one (st_ret (s_and (s_isi (by rfl) T.z_isinstance (s_name 0 (pv 0)) (s_ty (by rfl) T.z_list (by decide +kernel))) (s_one (s_all c.calm (by rfl) T.z_all ((f_comp c (i_seq (s_name 0 (pv 0))) (blkOk_by (own := [("part", 1)]) (N := n_is_turns) (sc := defScope st_is_turns) (by decide +kernel)) (fun _ _ _ _ _ => g_name (i := 1) (c.blk _ _ _ _ _) rfl (by first | exact .inl rfl | exact .inr rfl) (.inl rfl) (by decide)) (ts_nil) (fun _ _ _ _ _ => s_call (c.blk _ _ _ _ _) (ok_is_turn T) (hr.mono (by decide)) (by rfl) T.d_is_turn.m T.d_is_turn.F.kp T.d_is_turn.b (sa_cons (s_name 1 (pv 1)) (sa_nil)))).snd)))))
theorem ok_joined (T : Top K mg) : FnOk P w K mg base (L2.CX P w) 1 T.f_joined T.fd_joined ["turns"] (spP K mg 1 f_joined) :=
  fn_pure (k := 0) (m := c_joined) T.d_joined.F sc_joined (by decide) fun cdv A outer s H E hr c => ss_cons (st_setF (i := 1) c rfl (by first | exact .inl rfl | exact .inr rfl) (f_lst (sa_nil)) (.inl rfl)) (ss_cons (st_for (ws := [2, 3]) c (i_seq (s_name 0 (pv 0))) (g_tup c (gs_cons (g_name (i := 2) c rfl (by first | exact .inl rfl | exact .inr rfl) (.inl rfl) (by decide)) (gs_cons (g_name (i := 3) c rfl (by first | exact .inl rfl | exact .inr rfl) (.inl rfl) (by decide)) (gs_nil))) (len_cons (len_cons (len_nil)))) (ss_cons (st_if ((w_and (t_name 1 (pv 1)) (w_and1 (t_eq (s_ix (s_ixN 1 (pv 1) (s_neg (s_int))) (s_int)) (s_name 2 (pv 2)) c.hu))).t) (ss_one (st_augAdd (i := 3) c rfl (by first | exact .inl rfl | exact .inr rfl) (s_ix (s_pop 1 (pv 1)) (s_int)) (.inl rfl))) (ss_nil)) (ss_one (st_append 1 (pv 1) (s_tup (sa_cons (s_name 2 (pv 2)) (sa_cons (s_name 3 (pv 3)) (sa_nil)))))))) (ss_one (st_ret (s_name 1 (pv 1)))))
theorem ok_forgets (T : Top K mg) : FnOk P w K mg base (L2.CX P w) 2 T.f_forgets T.fd_forgets ["turns"] (spP K mg 1 f_forgets) :=
  fn_pure (k := 1) (m := c_forgets) T.d_forgets.F sc_forgets (by decide) fun cdv A outer s H E hr c => ss_cons (st_set (i := 1) c rfl (by first | exact .inl rfl | exact .inr rfl) (s_call c (ok_joined T) (hr.mono (by decide)) (by rfl) T.d_joined.m T.d_joined.F.kp T.d_joined.b (sa_cons (s_name 0 (pv 0)) (sa_nil))) (.inl rfl)) (ss_one (st_ret ((f_comp c (i_range2 (by rfl) T.z_range (s_int) (s_sub (s_lenN 1 (by rfl) T.z_len (pv 1)) (s_int))) (blkOk_by (own := [("at", 2)]) (N := n_forgets) (sc := defScope st_forgets) (by decide +kernel)) (fun _ _ _ _ _ => g_name (i := 2) (c.blk _ _ _ _ _) rfl (by first | exact .inl rfl | exact .inr rfl) (.inl rfl) (by decide)) (ts_one fun _ _ _ _ _ => t_le (s_ix (s_ixN 1 (pv 1) (s_name 2 (pv 2))) (s_int)) (s_min2 (c.blk _ _ _ _ _).calm (by rfl) T.z_min (s_ix (s_ixN 1 (pv 1) (s_sub (s_name 2 (pv 2)) (s_int))) (s_int)) (s_ix (s_ixN 1 (pv 1) (s_add (s_name 2 (pv 2)) (s_int))) (s_int)))) (fun _ _ _ _ _ => s_name 2 (pv 2))).snd)))
theorem ok_with_turn (T : Top K mg) : FnOk P w K mg base (L2.CX P w) 1 T.f_with_turn T.fd_with_turn ["found", "turn"] (spP K mg 2 f_with_turn) :=
  fn_pure (k := 0) (m := c_with_turn) T.d_with_turn.F sc_with_turn (by decide) fun cdv A outer s H E hr c => ss_cons (st_asg (ws := [2, 3]) (s_name 1 (pv 1)) (g_tup c (gs_cons (g_name (i := 2) c rfl (by first | exact .inl rfl | exact .inr rfl) (.inl rfl) (by decide)) (gs_cons (g_name (i := 3) c rfl (by first | exact .inl rfl | exact .inr rfl) (.inl rfl) (by decide)) (gs_nil))) (len_cons (len_cons (len_nil))))) (ss_cons (st_setF (i := 4) c rfl (by first | exact .inl rfl | exact .inr rfl) (f_list (by rfl) T.z_list (s_name 0 (pv 0))) (.inl rfl)) (ss_cons (st_if ((w_and (t_name 4 (pv 4)) (w_and1 (t_eq (s_ix (s_ixN 4 (pv 4) (s_neg (s_int))) (s_int)) (s_name 2 (pv 2)) c.hu))).t) (ss_one (st_augAdd (i := 3) c rfl (by first | exact .inl rfl | exact .inr rfl) (s_ix (s_pop 4 (pv 4)) (s_int)) (.inl rfl))) (ss_nil)) (ss_cons (st_append 4 (pv 4) (s_tup (sa_cons (s_name 2 (pv 2)) (sa_cons (s_name 3 (pv 3)) (sa_nil))))) (ss_cons (st_while c ((w_and (t_gt (s_lenN 4 (by rfl) T.z_len (pv 4)) (s_int)) (w_and1 (t_le (s_ix (s_ixN 4 (pv 4) (s_neg (s_int))) (s_int)) (s_min2 c.calm (by rfl) T.z_min (s_ix (s_ixN 4 (pv 4) (s_neg (s_int))) (s_int)) (s_ix (s_ixN 4 (pv 4) (s_neg (s_int))) (s_int)))))).t) (ss_cons (st_par3 (i := 5) (j := 6) (l := 7) c rfl rfl rfl (by decide) (by decide) (by decide) rfl rfl rfl (sa_cons (s_pop 4 (pv 4)) (sa_cons (s_pop 4 (pv 4)) (sa_cons (s_pop 4 (pv 4)) (sa_nil)))) (.inl rfl) (.inl rfl) (.inl rfl) (by rfl)) (ss_one (st_append 4 (pv 4) (s_tup (sa_cons (s_name 2 (pv 2)) (sa_cons (s_add (s_sub (s_ixN 7 (pv 7) (s_int)) (s_ixN 6 (pv 6) (s_int))) (s_ixN 5 (pv 5) (s_int))) (sa_nil)))))))) (ss_one (st_ret (s_name 4 (pv 4))))))))
theorem ok_forgotten (T : Top K mg) : FnOk P w K mg base (L2.CX P w) 2 T.f_forgotten T.fd_forgotten ["turns"] (spP K mg 1 f_forgotten) :=
  fn_pure (k := 1) (m := c_forgotten) T.d_forgotten.F sc_forgotten (by decide) fun cdv A outer s H E hr c => ss_cons (st_set (i := 1) c rfl (by first | exact .inl rfl | exact .inr rfl) (s_lst (sa_nil)) (.inl rfl)) (ss_cons (st_for (ws := [2]) c (i_seq (s_name 0 (pv 0))) (g_name (i := 2) c rfl (by first | exact .inl rfl | exact .inr rfl) (.inl rfl) (by decide)) (ss_one (st_set (i := 1) c rfl (by first | exact .inl rfl | exact .inr rfl) (s_call c (ok_with_turn T) (hr.mono (by decide)) (by rfl) T.d_with_turn.m T.d_with_turn.F.kp T.d_with_turn.b (sa_cons (s_name 1 (pv 1)) (sa_cons (s_tuple (by rfl) T.z_tuple (s_name 2 (pv 2))) (sa_nil)))) (.inl rfl)))) (ss_one (st_ret (s_name 1 (pv 1)))))
theorem ok_is_forgotten (T : Top K mg) : FnOk P w K mg base (L2.CX P w) 4 T.f_is_forgotten T.fd_is_forgotten ["thing"] (spP K mg 1 f_is_forgotten) :=
  fn_pure (k := 3) (m := c_is_forgotten) T.d_is_forgotten.F sc_is_forgotten (by decide) fun cdv A outer s H E hr c => ss_one (st_ret (s_and (s_call c (ok_is_turns T) (hr.mono (by decide)) (by rfl) T.d_is_turns.m T.d_is_turns.F.kp T.d_is_turns.b (sa_cons (s_name 0 (pv 0)) (sa_nil))) (s_one (s_eq c.hu (s_call c (ok_forgotten T) (hr.mono (by decide)) (by rfl) T.d_forgotten.m T.d_forgotten.F.kp T.d_forgotten.b (sa_cons (s_name 0 (pv 0)) (sa_nil))) (s_name 0 (pv 0))))))
theorem ok_so_often (T : Top K mg) : FnOk P w K mg base (L2.CX P w) 3 T.f_so_often T.fd_so_often ["turns", "many"] (spP K mg 2 f_so_often) :=
  fn_pure (k := 2) (m := c_so_often) T.d_so_often.F sc_so_often (by decide) fun cdv A outer s H E hr c => ss_cons (st_par (i := 2) (j := 3) c rfl rfl (by decide) rfl rfl (sa_cons (s_lst (sa_nil)) (sa_cons (s_call c (ok_forgotten T) (hr.mono (by decide)) (by rfl) T.d_forgotten.m T.d_forgotten.F.kp T.d_forgotten.b (sa_cons (s_name 0 (pv 0)) (sa_nil))) (sa_nil))) (.inl rfl) (.inl rfl) (by rfl)) (ss_cons (st_while c (t_gt (s_name 1 (pv 1)) (s_int)) (ss_cons (st_if (t_eq (s_mod (s_name 1 (pv 1)) (s_int)) (s_int) c.hu) (ss_one (st_set (i := 2) c rfl (by first | exact .inl rfl | exact .inr rfl) (s_call c (ok_forgotten T) (hr.mono (by decide)) (by rfl) T.d_forgotten.m T.d_forgotten.F.kp T.d_forgotten.b (sa_cons (s_add (s_name 2 (pv 2)) (s_name 3 (pv 3))) (sa_nil))) (.inl rfl))) (ss_nil)) (ss_cons (st_augDiv (i := 1) c rfl (by first | exact .inl rfl | exact .inr rfl) (s_int) (.inl rfl)) (ss_one (st_if (t_gt (s_name 1 (pv 1)) (s_int)) (ss_one (st_set (i := 3) c rfl (by first | exact .inl rfl | exact .inr rfl) (s_call c (ok_forgotten T) (hr.mono (by decide)) (by rfl) T.d_forgotten.m T.d_forgotten.F.kp T.d_forgotten.b (sa_cons (s_add (s_name 3 (pv 3)) (s_name 3 (pv 3))) (sa_nil))) (.inl rfl))) (ss_nil)))))) (ss_one (st_ret (s_name 2 (pv 2)))))
theorem ok__law_box (T : Top K mg) : FnOk P w K mg base (L2.CX P w) 1 T.f__law_box T.fd__law_box ["_law_script", "_law_k"] (spF K mg 2 f__law_box) :=
  fn_fresh (k := 0) (m := c__law_box) T.d__law_box.F sc__law_box (by decide) fun cdv A outer s H E hr c => ss_cons (st_set (i := 2) c rfl (by first | exact .inl rfl | exact .inr rfl) (s_int) (.inl rfl)) (ss_cons (st_if (t_lt (s_name 1 (pv 1)) (s_lenN 0 (by rfl) T.z_len (pv 0))) (ss_one (st_set (i := 2) c rfl (by first | exact .inl rfl | exact .inr rfl) (s_ixN 0 (pv 0) (s_name 1 (pv 1))) (.inl rfl))) (ss_nil)) (ss_one (st_retF (f_lst (sa_cons (s_mul (s_abs (by rfl) T.z_abs (s_name 2 (pv 2))) (s_int' (by rfl) T.z_int (s_ge (s_abs (by rfl) T.z_abs (s_name 2 (pv 2))) (s_pow (s_int) (s_int))))) (sa_cons (s_add (s_add (s_mod (s_name 2 (pv 2)) (s_int)) (s_mul (s_int) (s_name 1 (pv 1)))) (s_int)) (sa_cons (s_int) (sa_nil))))))))
theorem ok__law_take (T : Top K mg) : FnOk P w K mg base (L2.CX P w) 1 T.f__law_take T.fd__law_take ["_law_box_here", "_law_bound"] (spB K mg 1 f__law_take) :=
  fn_box (k := 0) (m0 := c__law_take) rfl T.d__law_take.F sc__law_take (by decide) fun b cdv A outer s H E hr c => ss_cons (st_if (t_gt (s_ixN 0 (pv 0) (s_int)) (s_int)) (ss_cons (st_set (i := 2) c rfl (by first | exact .inl rfl | exact .inr rfl) (s_mod (s_ixN 0 (pv 0) (s_int)) (s_name 1 (pv 1))) (.inr (by decide))) (ss_cons (st_setIx 0 (pv 0) (s_int) (s_div (s_ixN 0 (pv 0) (s_int)) (s_name 1 (pv 1)))) (ss_one (st_ret (s_name 2 (pv 2)))))) (ss_nil)) (ss_cons (st_setIx 0 (pv 0) (s_int) (s_add (s_ixN 0 (pv 0) (s_int)) (s_int))) (ss_cons (st_set (i := 3) c rfl (by first | exact .inl rfl | exact .inr rfl) (s_mod (s_pow (s_add (s_ixN 0 (pv 0) (s_int)) (s_mul (s_int) (s_ixN 0 (pv 0) (s_int)))) (s_int)) (s_int)) (.inr (by decide))) (ss_one (st_ret (s_mod (s_div (s_mod (s_add (s_mul (s_name 3 (pv 3)) (s_add (s_mod (s_name 3 (pv 3)) (s_int)) (s_int))) (s_mul (s_ixN 0 (pv 0) (s_int)) (s_int))) (s_int)) (s_int)) (s_name 1 (pv 1)))))))
theorem ok__law_same (T : Top K mg) : ∀ d : Nat, FnOk P w K mg base (L2.CX P w) (0 + d) T.f__law_same T.fd__law_same ["_law_found", "_law_due"] (spP K mg 2 (f__law_same d))
  | 0 => fn_bad rfl
  | d + 1 => by
    have G := ok__law_same T d
    exact fn_pure (k := 0 + d) T.d__law_same.F sc__law_same (by decide) fun cdv A outer s H E hr c => ss_cons (st_if (t_truth (s_isi (by rfl) T.z_isinstance (s_name 1 (pv 1)) (s_tup (sa_cons (s_ty (by rfl) T.z_list (by decide +kernel)) (sa_cons (s_ty (by rfl) T.z_tuple (by decide +kernel)) (sa_nil)))))) (ss_cons (st_if ((w_or (t_ne (s_isi (by rfl) T.z_isinstance (s_name 0 (pv 0)) (s_ty (by rfl) T.z_list (by decide +kernel))) (s_isi (by rfl) T.z_isinstance (s_name 1 (pv 1)) (s_ty (by rfl) T.z_list (by decide +kernel))) c.hu) (w_or1 (t_ne (s_isi (by rfl) T.z_isinstance (s_name 0 (pv 0)) (s_ty (by rfl) T.z_tuple (by decide +kernel))) (s_isi (by rfl) T.z_isinstance (s_name 1 (pv 1)) (s_ty (by rfl) T.z_tuple (by decide +kernel))) c.hu))).t) (ss_one (st_ret (s_bl))) (ss_nil)) (ss_cons (st_if (t_ne (s_lenN 0 (by rfl) T.z_len (pv 0)) (s_lenN 1 (by rfl) T.z_len (pv 1)) c.hu) (ss_one (st_ret (s_bl))) (ss_nil)) (ss_one (st_ret (s_all c.calm (by rfl) T.z_all ((f_comp c (i_zip (by rfl) T.z_zip (s_name 0 (pv 0)) (s_name 1 (pv 1))) (blkOk_by (own := [("_law_one", 2), ("_law_two", 3)]) (N := n__law_same) (sc := defScope st__law_same) (by decide +kernel)) (fun _ _ _ _ _ => g_tup (c.blk _ _ _ _ _) (gs_cons (g_name (i := 2) (c.blk _ _ _ _ _) rfl (by first | exact .inl rfl | exact .inr rfl) (.inl rfl) (by decide)) (gs_cons (g_name (i := 3) (c.blk _ _ _ _ _) rfl (by first | exact .inl rfl | exact .inr rfl) (.inl rfl) (by decide)) (gs_nil))) (len_cons (len_cons (len_nil)))) (ts_nil) (fun _ _ _ _ _ => s_call (c.blk _ _ _ _ _) G hr (by rfl) T.d__law_same.m T.d__law_same.F.kp T.d__law_same.b (sa_cons (s_name 2 (pv 2)) (sa_cons (s_name 3 (pv 3)) (sa_nil))))).snd)))))) (ss_nil)) (ss_cons (st_if ((w_or (t_is (s_name 1 (pv 1)) (s_non)) (w_or1 (t_truth (s_isi (by rfl) T.z_isinstance (s_name 1 (pv 1)) (s_ty (by rfl) T.z_str (by decide +kernel)))))).t) (ss_one (st_ret (s_and (s_eq c.hu (s_name 0 (pv 0)) (s_name 1 (pv 1))) (s_one (s_eq c.hu (s_isi (by rfl) T.z_isinstance (s_name 0 (pv 0)) (s_ty (by rfl) T.z_str (by decide +kernel))) (s_isi (by rfl) T.z_isinstance (s_name 1 (pv 1)) (s_ty (by rfl) T.z_str (by decide +kernel)))))))) (ss_nil)) (ss_one (st_ret (s_and (s_isi (by rfl) T.z_isinstance (s_name 0 (pv 0)) (s_ty (by rfl) T.z_int (by decide +kernel))) (s_and (s_eq c.hu (s_isi (by rfl) T.z_isinstance (s_name 0 (pv 0)) (s_ty (by rfl) T.z_bool (by decide +kernel))) (s_isi (by rfl) T.z_isinstance (s_name 1 (pv 1)) (s_ty (by rfl) T.z_bool (by decide +kernel)))) (s_one (s_eq c.hu (s_name 0 (pv 0)) (s_name 1 (pv 1)))))))))
theorem ok__law_of (T : Top K mg) : FnOk P w K mg base (L2.CX P w) 2 T.f__law_of T.fd__law_of ["_law_box_here", "_law_some"] (spB K mg 1 f__law_of) :=
  fn_box (k := 1) (m0 := c__law_of) rfl T.d__law_of.F sc__law_of (by decide) fun b cdv A outer s H E hr c => ss_one (st_ret (s_ixN 1 (pv 1) (s_callBx 0 c (ok__law_take T) (hr.mono (by decide)) (by rfl) T.d__law_take.m T.d__law_take.F.kp T.d__law_take.b (pv 0) (sa_cons (s_lenN 1 (by rfl) T.z_len (pv 1)) (sa_nil)))))
theorem ok__law_told (T : Top K mg) : FnOk P w K mg base (L2.CX P w) 1 T.f__law_told T.fd__law_told ["_law_some", "_law_by", "_law_sense"] (spP K mg 3 f__law_told) :=
  fn_pure (k := 0) (m := c__law_told) T.d__law_told.F sc__law_told (by decide) fun cdv A outer s H E hr c => ss_cons (st_parF (i := 3) (j := 4) c rfl rfl (by decide) rfl rfl (f_lst (sa_nil)) (s_index (hu65 hr) (s_lst (sa_cons (s_str) (sa_cons (s_str) (sa_nil)))) (s_name 2 (pv 2))) (.inl rfl) (.inl rfl) (by rfl)) (ss_cons (st_for (ws := [5]) c (i_seq (s_name 0 (pv 0))) (g_name (i := 5) c rfl (by first | exact .inl rfl | exact .inr rfl) (.inl rfl) (by decide)) (ss_cons (st_append 3 (pv 3) (s_tup (sa_cons (s_ix (s_lst (sa_cons (s_str) (sa_cons (s_str) (sa_nil)))) (s_name 4 (pv 4))) (sa_cons (s_mul (s_name 5 (pv 5)) (s_name 1 (pv 1))) (sa_nil))))) (ss_one (st_set (i := 4) c rfl (by first | exact .inl rfl | exact .inr rfl) (s_sub (s_int) (s_name 4 (pv 4))) (.inl rfl))))) (ss_one (st_ret (s_name 3 (pv 3)))))
theorem ok__law_known_right (T : Top K mg) : FnOk P w K mg base (L2.CX P w) 7 T.f__law_known_right T.fd__law_known_right ["_law_by", "_law_sense"] (spP K mg 2 f__law_known_right) :=
  fn_pure (k := 6) (m := c__law_known_right) T.d__law_known_right.F sc__law_known_right (by decide) fun cdv A outer s H E hr c => ss_cons (st_setF (i := 2) c rfl (by first | exact .inl rfl | exact .inr rfl) (f_lst (sa_cons (s_tup (sa_cons (s_lst (sa_cons (s_int) (sa_cons (s_int) (sa_cons (s_int) (sa_nil))))) (sa_cons (s_lst (sa_cons (s_int) (sa_nil))) (sa_cons (s_lst (sa_cons (s_int) (sa_nil))) (sa_nil))))) (sa_cons (s_tup (sa_cons (s_lst (sa_cons (s_int) (sa_cons (s_int) (sa_cons (s_int) (sa_nil))))) (sa_cons (s_lst (sa_cons (s_int) (sa_nil))) (sa_cons (s_lst (sa_cons (s_int) (sa_nil))) (sa_nil))))) (sa_cons (s_tup (sa_cons (s_lst (sa_cons (s_int) (sa_cons (s_int) (sa_cons (s_int) (sa_nil))))) (sa_cons (s_lst (sa_cons (s_int) (sa_cons (s_int) (sa_cons (s_int) (sa_nil))))) (sa_cons (s_lst (sa_nil)) (sa_nil))))) (sa_cons (s_tup (sa_cons (s_lst (sa_cons (s_int) (sa_cons (s_int) (sa_cons (s_int) (sa_nil))))) (sa_cons (s_lst (sa_cons (s_int) (sa_cons (s_int) (sa_cons (s_int) (sa_nil))))) (sa_cons (s_lst (sa_nil)) (sa_nil))))) (sa_nil)))))) (.inl rfl)) (ss_cons (st_setF (i := 2) c rfl (by first | exact .inl rfl | exact .inr rfl) (f_cat (s_name 2 (pv 2)) (s_lst (sa_cons (s_tup (sa_cons (s_lst (sa_cons (s_int) (sa_cons (s_int) (sa_cons (s_int) (sa_nil))))) (sa_cons (s_lst (sa_cons (s_int) (sa_nil))) (sa_cons (s_lst (sa_cons (s_int) (sa_nil))) (sa_nil))))) (sa_cons (s_tup (sa_cons (s_lst (sa_cons (s_int) (sa_cons (s_int) (sa_cons (s_int) (sa_cons (s_int) (sa_nil)))))) (sa_cons (s_lst (sa_cons (s_int) (sa_cons (s_int) (sa_cons (s_int) (sa_cons (s_int) (sa_nil)))))) (sa_cons (s_lst (sa_nil)) (sa_nil))))) (sa_cons (s_tup (sa_cons (s_lst (sa_cons (s_int) (sa_cons (s_int) (sa_cons (s_int) (sa_cons (s_int) (sa_cons (s_int) (sa_nil))))))) (sa_cons (s_lst (sa_cons (s_int) (sa_cons (s_int) (sa_cons (s_int) (sa_cons (s_int) (sa_cons (s_int) (sa_nil))))))) (sa_cons (s_lst (sa_nil)) (sa_nil))))) (sa_nil)))))) (.inl rfl)) (ss_cons (st_setF (i := 2) c rfl (by first | exact .inl rfl | exact .inr rfl) (f_cat (s_name 2 (pv 2)) (s_lst (sa_cons (s_tup (sa_cons (s_lst (sa_cons (s_int) (sa_cons (s_int) (sa_cons (s_int) (sa_cons (s_int) (sa_cons (s_int) (sa_nil))))))) (sa_cons (s_lst (sa_cons (s_int) (sa_nil))) (sa_cons (s_lst (sa_cons (s_int) (sa_nil))) (sa_nil))))) (sa_cons (s_tup (sa_cons (s_lst (sa_cons (s_int) (sa_cons (s_int) (sa_cons (s_int) (sa_cons (s_int) (sa_cons (s_int) (sa_nil))))))) (sa_cons (s_lst (sa_cons (s_int) (sa_nil))) (sa_cons (s_lst (sa_cons (s_int) (sa_cons (s_int) (sa_nil)))) (sa_nil))))) (sa_cons (s_tup (sa_cons (s_lst (sa_cons (s_int) (sa_cons (s_int) (sa_nil)))) (sa_cons (s_lst (sa_cons (s_int) (sa_cons (s_int) (sa_nil)))) (sa_cons (s_lst (sa_nil)) (sa_nil))))) (sa_cons (s_tup (sa_cons (s_lst (sa_cons (s_int) (sa_nil))) (sa_cons (s_lst (sa_cons (s_int) (sa_nil))) (sa_cons (s_lst (sa_nil)) (sa_nil))))) (sa_nil))))))) (.inl rfl)) (ss_cons (st_setF (i := 2) c rfl (by first | exact .inl rfl | exact .inr rfl) (f_cat (s_name 2 (pv 2)) (s_lst (sa_cons (s_tup (sa_cons (s_lst (sa_cons (s_int) (sa_cons (s_int) (sa_cons (s_int) (sa_cons (s_int) (sa_nil)))))) (sa_cons (s_lst (sa_cons (s_int) (sa_cons (s_int) (sa_nil)))) (sa_cons (s_lst (sa_cons (s_int) (sa_cons (s_int) (sa_nil)))) (sa_nil))))) (sa_cons (s_tup (sa_cons (s_lst (sa_cons (s_int) (sa_cons (s_int) (sa_cons (s_int) (sa_cons (s_int) (sa_cons (s_int) (sa_nil))))))) (sa_cons (s_lst (sa_cons (s_int) (sa_cons (s_int) (sa_cons (s_int) (sa_nil))))) (sa_cons (s_lst (sa_cons (s_int) (sa_nil))) (sa_nil))))) (sa_nil))))) (.inl rfl)) (ss_cons (st_append 2 (pv 2) (s_tup (sa_cons (s_lst (sa_cons (s_int) (sa_cons (s_int) (sa_cons (s_int) (sa_cons (s_int) (sa_cons (s_int) (sa_cons (s_int) (sa_nil)))))))) (sa_cons (s_lst (sa_cons (s_int) (sa_cons (s_int) (sa_cons (s_int) (sa_cons (s_int) (sa_nil)))))) (sa_cons (s_lst (sa_cons (s_int) (sa_cons (s_int) (sa_nil)))) (sa_nil)))))) (ss_cons (st_for (ws := [3, 4, 5]) c (i_seq (s_name 2 (pv 2))) (g_tup c (gs_cons (g_name (i := 3) c rfl (by first | exact .inl rfl | exact .inr rfl) (.inl rfl) (by decide)) (gs_cons (g_name (i := 4) c rfl (by first | exact .inl rfl | exact .inr rfl) (.inl rfl) (by decide)) (gs_cons (g_name (i := 5) c rfl (by first | exact .inl rfl | exact .inr rfl) (.inl rfl) (by decide)) (gs_nil)))) (len_cons (len_cons (len_cons (len_nil))))) (ss_cons (st_set (i := 6) c rfl (by first | exact .inl rfl | exact .inr rfl) (s_call c (ok__law_told T) (hr.mono (by decide)) (by rfl) T.d__law_told.m T.d__law_told.F.kp T.d__law_told.b (sa_cons (s_name 3 (pv 3)) (sa_cons (s_name 0 (pv 0)) (sa_cons (s_name 1 (pv 1)) (sa_nil))))) (.inl rfl)) (ss_cons (st_set (i := 7) c rfl (by first | exact .inl rfl | exact .inr rfl) (s_call c (ok__law_told T) (hr.mono (by decide)) (by rfl) T.d__law_told.m T.d__law_told.F.kp T.d__law_told.b (sa_cons (s_name 4 (pv 4)) (sa_cons (s_name 0 (pv 0)) (sa_cons (s_name 1 (pv 1)) (sa_nil))))) (.inl rfl)) (ss_one (st_if (t_not (t_truth (s_call c (ok__law_same T 6) (hr.mono (by decide)) (by rfl) T.d__law_same.m T.d__law_same.F.kp T.d__law_same.b (sa_cons (s_lst (sa_cons (s_call c (ok_forgotten T) (hr.mono (by decide)) (by rfl) T.d_forgotten.m T.d_forgotten.F.kp T.d_forgotten.b (sa_cons (s_name 6 (pv 6)) (sa_nil))) (sa_cons (s_call c (ok_forgets T) (hr.mono (by decide)) (by rfl) T.d_forgets.m T.d_forgets.F.kp T.d_forgets.b (sa_cons (s_name 6 (pv 6)) (sa_nil))) (sa_cons (s_call c (ok_is_forgotten T) (hr.mono (by decide)) (by rfl) T.d_is_forgotten.m T.d_is_forgotten.F.kp T.d_is_forgotten.b (sa_cons (s_name 6 (pv 6)) (sa_nil))) (sa_nil))))) (sa_cons (s_lst (sa_cons (s_name 7 (pv 7)) (sa_cons (s_name 5 (pv 5)) (sa_cons (s_eq c.hu (s_name 5 (pv 5)) (s_lst (sa_nil))) (sa_nil))))) (sa_nil)))))) (ss_one (st_ret (s_bl))) (ss_nil)))))) (ss_one (st_ret (s_bl))))))))
theorem ok__law_joined_right (T : Top K mg) : FnOk P w K mg base (L2.CX P w) 7 T.f__law_joined_right T.fd__law_joined_right ["_law_by", "_law_sense"] (spP K mg 2 f__law_joined_right) :=
  fn_pure (k := 6) (m := c__law_joined_right) T.d__law_joined_right.F sc__law_joined_right (by decide) fun cdv A outer s H E hr c => ss_cons (st_set (i := 2) c rfl (by first | exact .inl rfl | exact .inr rfl) (s_dix (by have := c.hu; omega) (s_dict (sd_cons (k := .inr "forth") pe_str (s_str) (sd_cons (k := .inr "back") pe_str (s_str) (sd_nil))) (by decide +kernel)) (s_name 1 (pv 1))) (.inl rfl)) (ss_cons (st_set (i := 3) c rfl (by first | exact .inl rfl | exact .inr rfl) (s_lst (sa_cons (s_tup (sa_cons (s_name 1 (pv 1)) (sa_cons (s_mul (s_int) (s_name 0 (pv 0))) (sa_nil)))) (sa_cons (s_tup (sa_cons (s_name 2 (pv 2)) (sa_cons (s_mul (s_int) (s_name 0 (pv 0))) (sa_nil)))) (sa_cons (s_tup (sa_cons (s_name 2 (pv 2)) (sa_cons (s_name 0 (pv 0)) (sa_nil)))) (sa_cons (s_tup (sa_cons (s_name 1 (pv 1)) (sa_cons (s_mul (s_int) (s_name 0 (pv 0))) (sa_nil)))) (sa_cons (s_tup (sa_cons (s_name 1 (pv 1)) (sa_cons (s_name 0 (pv 0)) (sa_nil)))) (sa_nil))))))) (.inl rfl)) (ss_cons (st_if (t_not (t_truth (s_call c (ok__law_same T 6) (hr.mono (by decide)) (by rfl) T.d__law_same.m T.d__law_same.F.kp T.d__law_same.b (sa_cons (s_lst (sa_cons (s_call c (ok_joined T) (hr.mono (by decide)) (by rfl) T.d_joined.m T.d_joined.F.kp T.d_joined.b (sa_cons (s_name 3 (pv 3)) (sa_nil))) (sa_cons (s_call c (ok_forgets T) (hr.mono (by decide)) (by rfl) T.d_forgets.m T.d_forgets.F.kp T.d_forgets.b (sa_cons (s_name 3 (pv 3)) (sa_nil))) (sa_nil)))) (sa_cons (s_lst (sa_cons (s_lst (sa_cons (s_tup (sa_cons (s_name 1 (pv 1)) (sa_cons (s_mul (s_int) (s_name 0 (pv 0))) (sa_nil)))) (sa_cons (s_tup (sa_cons (s_name 2 (pv 2)) (sa_cons (s_mul (s_int) (s_name 0 (pv 0))) (sa_nil)))) (sa_cons (s_tup (sa_cons (s_name 1 (pv 1)) (sa_cons (s_mul (s_int) (s_name 0 (pv 0))) (sa_nil)))) (sa_nil))))) (sa_cons (s_lst (sa_nil)) (sa_nil)))) (sa_nil)))))) (ss_one (st_ret (s_bl))) (ss_nil)) (ss_cons (st_if ((w_or (t_not (t_truth (s_call c (ok__law_same T 6) (hr.mono (by decide)) (by rfl) T.d__law_same.m T.d__law_same.F.kp T.d__law_same.b (sa_cons (s_call c (ok_forgotten T) (hr.mono (by decide)) (by rfl) T.d_forgotten.m T.d_forgotten.F.kp T.d_forgotten.b (sa_cons (s_name 3 (pv 3)) (sa_nil))) (sa_cons (s_call c (ok_joined T) (hr.mono (by decide)) (by rfl) T.d_joined.m T.d_joined.F.kp T.d_joined.b (sa_cons (s_name 3 (pv 3)) (sa_nil))) (sa_nil)))))) (w_or1 (t_isnot (s_call c (ok_is_forgotten T) (hr.mono (by decide)) (by rfl) T.d_is_forgotten.m T.d_is_forgotten.F.kp T.d_is_forgotten.b (sa_cons (s_name 3 (pv 3)) (sa_nil))) (s_bl)))).t) (ss_one (st_ret (s_bl))) (ss_nil)) (ss_cons (st_set (i := 4) c rfl (by first | exact .inl rfl | exact .inr rfl) (s_lst (sa_cons (s_tup (sa_cons (s_name 1 (pv 1)) (sa_cons (s_mul (s_int) (s_name 0 (pv 0))) (sa_nil)))) (sa_cons (s_tup (sa_cons (s_name 2 (pv 2)) (sa_cons (s_mul (s_int) (s_name 0 (pv 0))) (sa_nil)))) (sa_nil)))) (.inl rfl)) (ss_cons (st_comp (i := 5) c rfl rfl (sw_true rfl rfl rfl (by decide +kernel)) (i_seq (s_tup (sa_cons (s_int) (sa_cons (s_int) (sa_cons (s_int) (sa_cons (s_pow (s_int) (s_int)) (sa_nil))))))) (blkOk_by (own := [("_law_often", 8)]) (N := n__law_joined_right) (sc := defScope st__law_joined_right) (by decide +kernel)) (fun _ _ _ _ _ => g_name (i := 8) (c.blk _ _ _ _ _) rfl (by first | exact .inl rfl | exact .inr rfl) (.inl rfl) (by decide)) (ts_nil) (fun _ _ _ _ _ => s_call (c.blk _ _ _ _ _) (ok_so_often T) (hr.mono (by decide)) (by rfl) T.d_so_often.m T.d_so_often.F.kp T.d_so_often.b (sa_cons (s_name 4 (pv 4)) (sa_cons (s_name 8 (pv 8)) (sa_nil)))) (.inl rfl)) (ss_cons (st_comp (i := 6) c rfl rfl (sw_true rfl rfl rfl (by decide +kernel)) (i_seq (s_tup (sa_cons (s_int) (sa_cons (s_int) (sa_cons (s_pow (s_int) (s_int)) (sa_nil)))))) (blkOk_by (own := [("_law_often", 8)]) (N := n__law_joined_right) (sc := defScope st__law_joined_right) (by decide +kernel)) (fun _ _ _ _ _ => g_name (i := 8) (c.blk _ _ _ _ _) rfl (by first | exact .inl rfl | exact .inr rfl) (.inl rfl) (by decide)) (ts_nil) (fun _ _ _ _ _ => s_lst (sa_cons (s_tup (sa_cons (s_name 1 (pv 1)) (sa_cons (s_mul (s_add (s_int) (s_name 8 (pv 8))) (s_name 0 (pv 0))) (sa_nil)))) (sa_cons (s_tup (sa_cons (s_name 2 (pv 2)) (sa_cons (s_mul (s_int) (s_name 0 (pv 0))) (sa_nil)))) (sa_nil)))) (.inl rfl)) (ss_cons (st_if (t_not (t_truth (s_call c (ok__law_same T 6) (hr.mono (by decide)) (by rfl) T.d__law_same.m T.d__law_same.F.kp T.d__law_same.b (sa_cons (s_name 5 (pv 5)) (sa_cons (s_add (s_lst (sa_cons (s_lst (sa_nil)) (sa_nil))) (s_name 6 (pv 6))) (sa_nil)))))) (ss_one (st_ret (s_bl))) (ss_nil)) (ss_cons (st_set (i := 7) c rfl (by first | exact .inl rfl | exact .inr rfl) (s_lst (sa_cons (s_tup (sa_cons (s_name 1 (pv 1)) (sa_cons (s_name 0 (pv 0)) (sa_nil)))) (sa_cons (s_tup (sa_cons (s_name 2 (pv 2)) (sa_cons (s_mul (s_int) (s_name 0 (pv 0))) (sa_nil)))) (sa_cons (s_tup (sa_cons (s_name 1 (pv 1)) (sa_cons (s_name 0 (pv 0)) (sa_nil)))) (sa_nil))))) (.inl rfl)) (ss_cons (st_comp (i := 5) c rfl rfl (sw_true rfl rfl rfl (by decide +kernel)) (i_seq (s_tup (sa_cons (s_int) (sa_cons (s_int) (sa_cons (s_int) (sa_nil)))))) (blkOk_by (own := [("_law_often", 8)]) (N := n__law_joined_right) (sc := defScope st__law_joined_right) (by decide +kernel)) (fun _ _ _ _ _ => g_name (i := 8) (c.blk _ _ _ _ _) rfl (by first | exact .inl rfl | exact .inr rfl) (.inl rfl) (by decide)) (ts_nil) (fun _ _ _ _ _ => s_call (c.blk _ _ _ _ _) (ok_so_often T) (hr.mono (by decide)) (by rfl) T.d_so_often.m T.d_so_often.F.kp T.d_so_often.b (sa_cons (s_name 7 (pv 7)) (sa_cons (s_name 8 (pv 8)) (sa_nil)))) (.inl rfl)) (ss_cons (st_set (i := 6) c rfl (by first | exact .inl rfl | exact .inr rfl) (s_lst (sa_cons (s_name 7 (pv 7)) (sa_cons (s_lst (sa_cons (s_tup (sa_cons (s_name 1 (pv 1)) (sa_cons (s_name 0 (pv 0)) (sa_nil)))) (sa_cons (s_tup (sa_cons (s_name 2 (pv 2)) (sa_cons (s_mul (s_int) (s_name 0 (pv 0))) (sa_nil)))) (sa_cons (s_tup (sa_cons (s_name 1 (pv 1)) (sa_cons (s_name 0 (pv 0)) (sa_nil)))) (sa_nil))))) (sa_cons (s_lst (sa_cons (s_tup (sa_cons (s_name 1 (pv 1)) (sa_cons (s_name 0 (pv 0)) (sa_nil)))) (sa_cons (s_tup (sa_cons (s_name 2 (pv 2)) (sa_cons (s_mul (s_int) (s_name 0 (pv 0))) (sa_nil)))) (sa_cons (s_tup (sa_cons (s_name 1 (pv 1)) (sa_cons (s_name 0 (pv 0)) (sa_nil)))) (sa_nil))))) (sa_nil))))) (.inl rfl)) (ss_one (st_ret (s_call c (ok__law_same T 6) (hr.mono (by decide)) (by rfl) T.d__law_same.m T.d__law_same.F.kp T.d__law_same.b (sa_cons (s_name 5 (pv 5)) (sa_cons (s_name 6 (pv 6)) (sa_nil))))))))))))))))
theorem ok_law (T : Top K mg) : FnOk P w K mg base (L2.CX P w) 8 T.f_law T.fd_law ["_law_script"] (spP K mg 1 f_law) :=
  fn_pure (k := 7) (m := c_law) T.d_law.F sc_law (by decide) fun cdv A outer s H E hr c => ss_cons (st_for (ws := [1]) c (i_range1 (by rfl) T.z_range (s_max2 c.calm (by rfl) T.z_max (s_int) (s_min2 c.calm (by rfl) T.z_min (s_int) (s_lenN 0 (by rfl) T.z_len (pv 0))))) (g_name (i := 1) c rfl (by first | exact .inl rfl | exact .inr rfl) (.inl rfl) (by decide)) (ss_cons (st_setF (i := 2) c rfl (by first | exact .inl rfl | exact .inr rfl) (f_call c (ok__law_box T) (hr.mono (by decide)) (by rfl) T.d__law_box.m T.d__law_box.F.kp T.d__law_box.b (sa_cons (s_name 0 (pv 0)) (sa_cons (s_name 1 (pv 1)) (sa_nil)))) (.inl rfl)) (ss_one (st_for (ws := [3]) c (i_seq (s_tup (sa_cons (s_int) (sa_cons (s_callBx 2 c (ok__law_of T) (hr.mono (by decide)) (by rfl) T.d__law_of.m T.d__law_of.F.kp T.d__law_of.b (pv 2) (sa_cons (s_lst (sa_cons (s_int) (sa_cons (s_pow (s_int) (s_int)) (sa_cons (s_pow (s_int) (s_int)) (sa_nil))))) (sa_nil))) (sa_cons (s_add (s_int) (s_callBx 2 c (ok__law_take T) (hr.mono (by decide)) (by rfl) T.d__law_take.m T.d__law_take.F.kp T.d__law_take.b (pv 2) (sa_cons (s_pow (s_int) (s_int)) (sa_nil)))) (sa_nil)))))) (g_name (i := 3) c rfl (by first | exact .inl rfl | exact .inr rfl) (.inl rfl) (by decide)) (ss_one (st_for (ws := [4]) c (i_seq (s_tup (sa_cons (s_str) (sa_cons (s_str) (sa_nil))))) (g_name (i := 4) c rfl (by first | exact .inl rfl | exact .inr rfl) (.inl rfl) (by decide)) (ss_one (st_if ((w_or (t_not (t_truth (s_call c (ok__law_known_right T) (hr.mono (by decide)) (by rfl) T.d__law_known_right.m T.d__law_known_right.F.kp T.d__law_known_right.b (sa_cons (s_name 3 (pv 3)) (sa_cons (s_name 4 (pv 4)) (sa_nil)))))) (w_or1 (t_not (t_truth (s_call c (ok__law_joined_right T) (hr.mono (by decide)) (by rfl) T.d__law_joined_right.m T.d__law_joined_right.F.kp T.d__law_joined_right.b (sa_cons (s_name 3 (pv 3)) (sa_cons (s_name 4 (pv 4)) (sa_nil)))))))).t) (ss_one (st_ret (s_bl))) (ss_nil))))))))) (ss_one (st_ret (s_bl)))
end
end Ev

set_option Elab.async false
set_option linter.all false
set_option maxRecDepth 100000
namespace Ev
open PySem L2
/-! ### values: what operations tell of written shapes -/
section
variable {α β : Type}
theorem ev_g0 {a : α} {l : List α} : (a :: l)[0]? = some a := rfl
theorem ev_gs {a : α} {l : List α} {n : Nat} : (a :: l)[n + 1]? = l[n]? := by simp
theorem ev_gn {n : Nat} : ([] : List α)[n]? = none := rfl
theorem ev_s0 {a b : α} {l : List α} : (a :: l).set 0 b = b :: l := rfl
theorem ev_ss {a b : α} {l : List α} {n : Nat} : (a :: l).set (n + 1) b = a :: l.set n b := rfl
theorem ev_m0 {f : α → β} : List.map f [] = [] := rfl
theorem ev_m1 {f : α → β} {a : α} {l : List α} : List.map f (a :: l) = f a :: List.map f l := rfl
theorem ev_a0 {l : List α} : [] ++ l = l := rfl
theorem ev_a1 {a : α} {l m : List α} : (a :: l) ++ m = a :: (l ++ m) := rfl
theorem ev_r0 {a : α} : List.replicate 0 a = [] := rfl
theorem ev_rs {a : α} {n : Nat} : List.replicate (n + 1) a = a :: List.replicate n a := rfl
theorem ev_l0 : ([] : List α).length = 0 := rfl
theorem ev_l1 {a : α} {l : List α} : (a :: l).length = l.length + 1 := rfl
theorem ev_d0 {l : List α} : l.drop 0 = l := rfl
theorem ev_d1 {a : α} {l : List α} {n : Nat} : (a :: l).drop (n + 1) = l.drop n := rfl
theorem ev_ob {a : α} {f : α → Option β} : (some a).bind f = f a := rfl
theorem ev_om {a : α} {f : α → β} : (some a).map f = some (f a) := rfl
theorem ev_it {P Q : Prop} : (if True then P else Q) = P := by simp
theorem ev_if {P Q : Prop} : (if False then P else Q) = Q := by simp
theorem ev_gl {a b : α} {l : List α} : (a :: b :: l).getLast? = (b :: l).getLast? := by simp
theorem ev_gl1 {a : α} : [a].getLast? = some a := rfl
theorem ev_dl {a b : α} {l : List α} : (a :: b :: l).dropLast = a :: (b :: l).dropLast := rfl
theorem ev_dl1 {a : α} : [a].dropLast = [] := rfl
theorem ev_gla {a : α} {l : List α} : (l ++ [a]).getLast? = some a := by simp
theorem ev_dla {a : α} {l : List α} : (l ++ [a]).dropLast = l := by simp
end
section
variable {i j : Int} {xs ys : List PV} {p q : PV} {x y : Str}
@[simp] theorem add_ii : pvAdd (.int i) (.int j) = some (.int (i + j)) := rfl
@[simp] theorem addI_ii : pvAddI (.int i) (.int j) = some (.int (i + j)) := rfl
@[simp] theorem sub_ii : pvSub (.int i) (.int j) = some (.int (i - j)) := rfl
@[simp] theorem add_ll : pvAdd (.lst xs) (.lst ys) = if xs.length + ys.length ≤ sizeLine then some (.lst (xs ++ ys)) else none := rfl
@[simp] theorem add_tt : pvAdd (.tup xs) (.tup ys) = if xs.length + ys.length ≤ sizeLine then some (.tup (xs ++ ys)) else none := rfl
@[simp] theorem mod_ii : pvMod (.int i) (.int j) = if 0 < j then some (.int (i % j)) else none := rfl
@[simp] theorem div_ii : pvDiv (.int i) (.int j) = if 0 < j ∧ j < 2 ^ 64 then some (.int (i / j)) else none := rfl
@[simp] theorem pow_ii : pvPow (.int i) (.int j) = if 0 ≤ j ∧ j ≤ 1000 ∧ i.natAbs < 2 ^ 64 then some (.int (i ^ j.toNat)) else none := rfl
@[simp] theorem mul_ii : pvMul (.int i) (.int j) = if (-(2 ^ 64) < i ∧ i < 2 ^ 64) ∨ (-(2 ^ 64) < j ∧ j < 2 ^ 64) then some (.int (i * j)) else none := by
  simp [pvMul, smallI]
@[simp] theorem mul_li : pvMul (.lst xs) (.int i) = if -(2 ^ 63) ≤ i ∧ i < 2 ^ 63 ∧ xs.length * i.toNat ≤ sizeLine then some (.lst (List.replicate i.toNat xs).flatten) else none := rfl
@[simp] theorem lt_ii : pvLt (.int i) (.int j) = some (.bl (decide (i < j))) := rfl
@[simp] theorem le_ii : pvLe (.int i) (.int j) = some (.bl (decide (i ≤ j))) := rfl
@[simp] theorem gt_ii : pvGt (.int i) (.int j) = some (.bl (decide (j < i))) := rfl
@[simp] theorem ge_ii : pvGe (.int i) (.int j) = some (.bl (decide (j ≤ i))) := rfl
@[simp] theorem neg_i : pvNeg (.int i) = some (.int (-i)) := rfl
@[simp] theorem eq_ii : pvEq (.int i) (.int j) = some (.bl (decide (i = j))) := by
  simp [pvEq, okD, pvD, PyData.eqv]; rw [Bool.eq_iff_iff]; simp
@[simp] theorem ne_ii : pvNe (.int i) (.int j) = some (.bl (!decide (i = j))) := by
  simp [pvNe, okD, pvD, PyData.eqv]; rw [Bool.eq_iff_iff]; simp
@[simp] theorem eq_bb {a b : Bool} : pvEq (.bl a) (.bl b) = some (.bl (a == b)) := by
  simp [pvEq, okD, pvD, PyData.eqv]
@[simp] theorem ne_bb {a b : Bool} : pvNe (.bl a) (.bl b) = some (.bl (!(a == b))) := by
  simp [pvNe, okD, pvD, PyData.eqv]
theorem eq_ss (hx : PyData.strOk x = true) (hy : PyData.strOk y = true) : pvEq (.str x) (.str y) = some (.bl (x == y)) := by
  simp [pvEq, okD, pvD, PyData.eqv, hx, hy]
@[simp] theorem is_bb {a b : Bool} : pvIs (.bl a) (.bl b) = some (.bl (decide (a = b))) := rfl
@[simp] theorem isnot_bb {a b : Bool} : pvIsNot (.bl a) (.bl b) = some (.bl (!decide (a = b))) := rfl
@[simp] theorem is_n : pvIs .non .non = some (.bl true) := rfl
@[simp] theorem is_in : pvIs (.int i) .non = some (.bl false) := rfl
@[simp] theorem is_sn : pvIs (.str x) .non = some (.bl false) := rfl
@[simp] theorem is_bn {b : Bool} : pvIs (.bl b) .non = some (.bl false) := rfl
@[simp] theorem is_tn : pvIs (.tup xs) .non = some (.bl false) := rfl
@[simp] theorem is_ln : pvIs (.lst xs) .non = some (.bl false) := rfl
@[simp] theorem isnot_n : pvIsNot .non .non = some (.bl false) := rfl
@[simp] theorem isnot_in : pvIsNot (.int i) .non = some (.bl true) := rfl
@[simp] theorem truth_b {b : Bool} : pvTruth (.bl b) = some b := rfl
@[simp] theorem truth_i : pvTruth (.int i) = some (i != 0) := rfl
@[simp] theorem truth_l : pvTruth (.lst xs) = some (!xs.isEmpty) := rfl
@[simp] theorem truth_t : pvTruth (.tup xs) = some (!xs.isEmpty) := rfl
@[simp] theorem len_l : pvLen (.lst xs) = some (.int xs.length) := rfl
@[simp] theorem len_t : pvLen (.tup xs) = some (.int xs.length) := rfl
@[simp] theorem len_s {ns : List Int} : pvLen (.scr ns) = some (.int ns.length) := rfl
@[simp] theorem ix_l : pvIx (.lst xs) (.int i) = atI xs i := rfl
@[simp] theorem ix_t : pvIx (.tup xs) (.int i) = atI xs i := rfl
@[simp] theorem ix_s {ns : List Int} : pvIx (.scr ns) (.int i) = (atI ns i).map .int := rfl
@[simp] theorem seq_l : pvSeq (.lst xs) = some xs := rfl
@[simp] theorem seq_t : pvSeq (.tup xs) = some xs := rfl
@[simp] theorem seq_s {ns : List Int} : pvSeq (.scr ns) = some (ns.map .int) := rfl
@[simp] theorem tuple_l : pvTuple (.lst xs) = some (.tup xs) := rfl
@[simp] theorem tuple_t : pvTuple (.tup xs) = some (.tup xs) := rfl
@[simp] theorem list_l : pvList [.lst xs] = some xs := rfl
@[simp] theorem list_t : pvList [.tup xs] = some xs := rfl
@[simp] theorem list_s {ns : List Int} : pvList [.scr ns] = some (ns.map .int) := rfl
@[simp] theorem on1_p {f : PV → Option PV} : on1 f [p] = f p := rfl
@[simp] theorem abs_i : pvAbs (.int i) = some (.int (if i < 0 then -i else i)) := rfl
@[simp] theorem int_b {b : Bool} : pvInt (.bl b) = some (.int (if b then 1 else 0)) := rfl
@[simp] theorem int_i : pvInt (.int i) = some (.int i) := rfl
@[simp] theorem max_ii : pvMax [.int i, .int j] = some (.int (max i j)) := rfl
@[simp] theorem min_ii : pvMin [.int i, .int j] = some (.int (min i j)) := rfl
@[simp] theorem rev_l : pvRevI (.lst xs) = some xs.reverse := rfl
@[simp] theorem rev_t : pvRevI (.tup xs) = some xs.reverse := rfl
@[simp] theorem zip_ll : pvZip [.lst xs, .lst ys] = some (List.zipWith pairP xs ys) := rfl
@[simp] theorem zip_tt : pvZip [.tup xs, .tup ys] = some (List.zipWith pairP xs ys) := rfl
@[simp] theorem cat_ll : pvCat (.lst xs) (.lst ys) = if xs.length + ys.length ≤ sizeLine then some (xs ++ ys) else none := rfl
@[simp] theorem range_1 : pvRange [.int j] = if -(2 ^ 62) ≤ j ∧ j < 2 ^ 62 then some (rangeP 0 j.toNat) else none := by simp [pvRange, small62]
@[simp] theorem range_2 : pvRange [.int i, .int j] = if (-(2 ^ 62) ≤ i ∧ i < 2 ^ 62) ∧ (-(2 ^ 62) ≤ j ∧ j < 2 ^ 62) then some (rangeP i (j - i).toNat) else none := by simp [pvRange, small62]
@[simp] theorem slot_0 {s : Slot} {r : Rho} : slotV (s :: r) 0 = (match s with | .val p => some p | .own xs => some (.lst xs) | .emp => none) := by cases s <;> rfl
@[simp] theorem slot_s {s : Slot} {r : Rho} {n : Nat} : slotV (s :: r) (n + 1) = slotV r n := by simp [slotV]
/-! kinds -/
@[simp] theorem isi_int_i : pvIsI [.int i, .ty "int"] = some (.bl true) := rfl
@[simp] theorem isi_int_b {b : Bool} : pvIsI [.bl b, .ty "int"] = some (.bl true) := rfl
@[simp] theorem isi_bool_i : pvIsI [.int i, .ty "bool"] = some (.bl false) := rfl
@[simp] theorem isi_bool_b {b : Bool} : pvIsI [.bl b, .ty "bool"] = some (.bl true) := rfl
@[simp] theorem isi_tup_t : pvIsI [.tup xs, .ty "tuple"] = some (.bl true) := rfl
@[simp] theorem isi_tup_l : pvIsI [.lst xs, .ty "tuple"] = some (.bl false) := rfl
@[simp] theorem isi_lst_l : pvIsI [.lst xs, .ty "list"] = some (.bl true) := rfl
@[simp] theorem isi_lst_t : pvIsI [.tup xs, .ty "list"] = some (.bl false) := rfl
@[simp] theorem isi_str_s : pvIsI [.str x, .ty "str"] = some (.bl true) := rfl
@[simp] theorem isi_str_i : pvIsI [.int i, .ty "str"] = some (.bl false) := rfl
@[simp] theorem isi_str_b {b : Bool} : pvIsI [.bl b, .ty "str"] = some (.bl false) := rfl
@[simp] theorem isi_str_n : pvIsI [.non, .ty "str"] = some (.bl false) := rfl
@[simp] theorem isi_lt_l : pvIsI [.lst xs, .tup [.ty "list", .ty "tuple"]] = some (.bl true) := rfl
@[simp] theorem isi_lt_t : pvIsI [.tup xs, .tup [.ty "list", .ty "tuple"]] = some (.bl true) := rfl
@[simp] theorem isi_lt_i : pvIsI [.int i, .tup [.ty "list", .ty "tuple"]] = some (.bl false) := rfl
@[simp] theorem isi_lt_b {b : Bool} : pvIsI [.bl b, .tup [.ty "list", .ty "tuple"]] = some (.bl false) := rfl
@[simp] theorem isi_lt_s : pvIsI [.str x, .tup [.ty "list", .ty "tuple"]] = some (.bl false) := rfl
@[simp] theorem isi_lt_n : pvIsI [.non, .tup [.ty "list", .ty "tuple"]] = some (.bl false) := rfl
/-! places -/
@[simp] theorem at_0 {α : Type} {a : α} {r : List α} : atI (a :: r) 0 = some a := by simp [atI, ixN]
theorem at_nat {α : Type} {l : List α} {n : Nat} : atI l (n : Int) = l[n]? := by
  unfold atI ixN
  by_cases h : n < l.length
  · simp [h]
  · simp [h]
@[simp] theorem at_1 {α : Type} {a b : α} {r : List α} : atI (a :: b :: r) 1 = some b := at_nat (n := 1)
@[simp] theorem at_2 {α : Type} {a b c : α} {r : List α} : atI (a :: b :: c :: r) 2 = some c := at_nat (n := 2)
@[simp] theorem at_3 {α : Type} {a b c d : α} {r : List α} : atI (a :: b :: c :: d :: r) 3 = some d := at_nat (n := 3)
theorem at_neg {α : Type} {l : List α} {n : Nat} (h : n < l.length) : atI l (-(n + 1 : Nat) : Int) = l[l.length - 1 - n]? := by
  unfold atI ixN
  rw [if_neg (by omega), if_pos (by omega)]
  simp only [Option.bind_some]
  congr 1
  omega
@[simp] theorem at_last {α : Type} {l : List α} {a : α} : atI (l ++ [a]) (-1) = some a := by
  have := at_neg (l := l ++ [a]) (n := 0) (by simp)
  simpa using this
@[simp] theorem mg_name {r : Rho} {n : Nat} : mgName n p r = some (r.set n (.val p)) := rfl
@[simp] theorem mg_tup {gs : MGs} {r : Rho} : mgTup gs (.tup xs) r = gs xs r := rfl
@[simp] theorem mg_nil {r : Rho} : mgNil [] r = some r := rfl
@[simp] theorem mg_cons {g : MG} {gs : MGs} {r : Rho} : mgCons g gs (p :: xs) r = (g p r).bind fun r1 => gs xs r1 := rfl
@[simp] theorem own0_own {r : Rho} : own0 (.own xs :: r) = some xs := rfl
@[simp] theorem startR_eq {N : List Str} {ps : List PV} : startR N ps = ps.map .val ++ List.replicate (N.length - ps.length) .emp := rfl
@[simp] theorem wipe_0 {r : Rho} : wipeR r [] = r := rfl
@[simp] theorem wipe_1 {r : Rho} {v : Nat} {vs : List Nat} : wipeR r (v :: vs) = (wipeR r vs).set v .emp := rfl
@[simp] theorem back_0 {r0 r : Rho} : backR r0 r [] = r := rfl
@[simp] theorem back_1 {r0 r : Rho} {v : Nat} {vs : List Nat} : backR r0 r (v :: vs) = (match r0[v]? with | some s => (backR r0 r vs).set v s | none => backR r0 r vs) := rfl
@[simp] theorem ixN_3_0 : ixN 3 0 = some 0 := rfl
@[simp] theorem ixN_3_1 : ixN 3 1 = some 1 := rfl
@[simp] theorem ixN_3_2 : ixN 3 2 = some 2 := rfl
theorem ixN_0 {n : Nat} (h : 0 < n) : ixN n 0 = some 0 := by simp [ixN, h]
theorem ixN_nat {n k : Nat} (h : k < n) : ixN n (k : Int) = some k := by simp [ixN, h]
end
theorem sz (n : Nat) (h : n ≤ 1000000) : n < sizeLine := Nat.lt_of_le_of_lt h (by decide)
theorem szl {n : Nat} (h : n ≤ 1000000) : (n < sizeLine) = True := eq_true (sz n h)
theorem sze {n : Nat} (h : n ≤ 1000000) : (n ≤ sizeLine) = True := eq_true (Nat.le_of_lt (sz n h))
theorem WpF.use {r : RetF} {Q Q' : List PV → Prop} {E' : Exc → Prop} (h : WpF Q (fun _ => False) r) (k : ∀ p, Q p → Q' p) : WpF Q' E' r := by
  cases r <;> simp_all [WpF]
theorem wp_dict {Q : PV → Rho → Prop} {ρ : Rho} {ks : List Key} {ms : List M} : WpE Q (fun _ _ => False) (mDict ks ms ρ) = WpE (fun ps ρ1 => Q (.dic ks ps) ρ1) (fun _ _ => False) (mArgs ms ρ) := by
  unfold mDict
  cases mArgs ms ρ with
  | ok z => obtain ⟨a, b⟩ := z; rfl
  | exc x r => rfl
  | bad => rfl
/-! a box of draws: its own number, its seed, how many were drawn, n at most -/
def Box (n : Nat) (xs : List PV) : Prop := ∃ a b c : Int, xs = [.int a, .int b, .int c] ∧ 0 ≤ a ∧ 0 ≤ b ∧ b < 2 ^ 40 ∧ 0 ≤ c ∧ c ≤ n
theorem Box.mono {n m : Nat} {xs : List PV} (h : Box n xs) (hn : n ≤ m) : Box m xs := by
  obtain ⟨a, b, c, e, h1, h2, h3, h4, h5⟩ := h
  exact ⟨a, b, c, e, h1, h2, h3, h4, by omega⟩
end Ev

set_option maxHeartbeats 2000000
set_option linter.all false
set_option Elab.async false
set_option maxRecDepth 100000
namespace Ev
open PySem L2
theorem take_ok {n : Nat} {xs : List PV} {b : Int} (hx : Box n xs) (hn : n < 2 ^ 40) (h0 : 0 < b) (h1 : b < 2 ^ 64) :
    WpB (fun p ys => ∃ r, p = .int r ∧ 0 ≤ r ∧ r < b ∧ Box (n + 1) ys) (fun _ _ => False) (f__law_take xs [.int b]) := by
  obtain ⟨u, s, c, rfl, hu, hs0, hs1, hc0, hc1⟩ := hx
  have hs : (s + 39373 * (c + 1)).natAbs < 18446744073709551616 := by omega
  have h1' : b < 18446744073709551616 := by omega
  have hm : ∀ z : Int, 0 ≤ z % b ∧ z % b < b := fun z => ⟨Int.emod_nonneg _ (by omega), Int.emod_lt_of_pos _ h0⟩
  simp -implicitDefEqProofs only [Nat.reduceSub, Nat.reduceAdd, Int.reduceLT, Int.reduceLE, Int.reduceGT, Int.reduceGE, Int.reduceEq, Int.reducePow, Nat.reducePow, Nat.reduceMul, Int.reduceNeg, Int.reduceToNat, Int.reduceAbs, Int.reduceMod, Int.reduceDiv, Int.reduceAdd, Int.reduceSub, Int.reduceMul, Nat.reduceLT, Nat.reduceLeDiff, Nat.reduceEqDiff, decide_eq_true_eq, decide_true, decide_false, and_true, true_and, true_or, or_true, false_or, or_false, and_false, false_and, if_false, ite_true, ite_false, PV.int.injEq, PV.bl.injEq, exists_eq_left', Bool.not_true, Bool.not_false, Bool.false_eq_true, not_true_eq_false, not_false_eq_true, reduceCtorEq, Option.some.injEq, wp_ok, wp_exc, wp_bad, wo_some, wo_none, wo_if, wo_map, wo_bind, wp_of, ws_nx, ws_rt, ws_rf, ws_bk, ws_ct, ws_exc, ws_bad, wp_name, wp_c, wp_m2, wp_m1, wp_test, wp_truthN, wp_lenN, wp_ixN, wp_and, wp_or, wp_notT, wp_andV, wp_orV, wp_notV, wp_if, wp_ifF, wp_args0, wp_args1, wp_tup, wp_frz, wp_callB, wp_callF, wp_cat, wp_repL, wp_chain, wp_cut, wp_part0, wp_part1, wp_call, wp_callFr, wp_callBx, wp_popN, wp_index, wp_yes, wp_seqI, wp_range, wp_revI, wp_zip, ws_seq, ws_nil, ws_pass, ws_ret, ws_retF, ws_retN, ws_set, ws_setF, ws_if, ws_asg, ws_par, ws_par3, ws_parF, ws_aug, ws_append, ws_setIx, wpP_runP, wpF_runF, wpB_runB, wpP_ok, wpF_ok, wpP_exc, wpB_ok, ws_for', ws_forNil, wp_comp, wpC_nil, ev_g0, ev_gs, ev_gn, ev_s0, ev_ss, ev_m0, ev_m1, ev_a0, ev_a1, ev_r0, ev_rs, ev_l0, ev_l1, ev_d0, ev_d1, ev_ob, ev_om, ev_it, ev_if, ev_gl, ev_gl1, ev_dl, ev_dl1, ev_gla, ev_dla, add_ii, addI_ii, sub_ii, add_ll, add_tt, mod_ii, div_ii, pow_ii, mul_ii, mul_li, lt_ii, le_ii, gt_ii, ge_ii, neg_i, eq_ii, ne_ii, eq_bb, ne_bb, is_bb, isnot_bb, is_n, is_in, is_sn, is_bn, is_tn, is_ln, isnot_n, isnot_in, truth_b, truth_i, truth_l, truth_t, len_l, len_t, len_s, ix_l, ix_t, ix_s, seq_l, seq_t, seq_s, tuple_l, tuple_t, list_l, list_t, list_s, on1_p, abs_i, int_b, int_i, max_ii, min_ii, rev_l, rev_t, zip_ll, zip_tt, cat_ll, range_1, range_2, slot_0, slot_s, isi_int_i, isi_int_b, isi_bool_i, isi_bool_b, isi_tup_t, isi_tup_l, isi_lst_l, isi_lst_t, isi_str_s, isi_str_i, isi_str_b, isi_str_n, isi_lt_l, isi_lt_t, isi_lt_i, isi_lt_b, isi_lt_s, isi_lt_n, at_0, at_1, at_2, at_3, at_last, mg_name, mg_tup, mg_nil, mg_cons, own0_own, startR_eq, wipe_0, wipe_1, back_0, back_1, ixN_3_0, ixN_3_1, ixN_3_2, szl, sze, wp_dict, f__law_take, c__law_take, h0, h1', hs]
  split
  · exact ⟨(hm _).1, (hm _).2, _, s, c, rfl, Int.ediv_nonneg hu (by omega), hs0, hs1, hc0, by omega⟩
  · rw [if_pos]
    · exact ⟨(hm _).1, (hm _).2, u, s, c + 1, rfl, hu, hs0, hs1, by omega, by omega⟩
    · generalize (s + 39373 * (c + 1)) ^ 5 = z
      omega
theorem box_ok {ns : List Int} {k : Nat} (hk : k < 100) : WpF (fun xs => Box 0 xs) (fun _ => False) (f__law_box [.scr ns, .int k]) := by
  have fin : ∀ v : Int, Box 0 [.int ((if v < 0 then -v else v) * (if decide (10 ^ 18 ≤ (if v < 0 then -v else v)) = true then 1 else 0)), .int (v % 2147483629 + 7919 * k + 11), .int 0] := fun v => by
    refine ⟨_, _, _, rfl, ?_, ?_, ?_, by omega, by omega⟩
    · split <;> split <;> omega
    · omega
    · omega
  have hk' : (-18446744073709551616 : Int) < k ∧ (k : Int) < 18446744073709551616 := by omega
  simp -implicitDefEqProofs only [Nat.reduceSub, Nat.reduceAdd, Int.reduceLT, Int.reduceLE, Int.reduceGT, Int.reduceGE, Int.reduceEq, Int.reducePow, Nat.reducePow, Nat.reduceMul, Int.reduceNeg, Int.reduceToNat, Int.reduceAbs, Int.reduceMod, Int.reduceDiv, Int.reduceAdd, Int.reduceSub, Int.reduceMul, Nat.reduceLT, Nat.reduceLeDiff, Nat.reduceEqDiff, decide_eq_true_eq, decide_true, decide_false, and_true, true_and, true_or, or_true, false_or, or_false, and_false, false_and, if_false, ite_true, ite_false, PV.int.injEq, PV.bl.injEq, exists_eq_left', Bool.not_true, Bool.not_false, Bool.false_eq_true, not_true_eq_false, not_false_eq_true, reduceCtorEq, Option.some.injEq, wp_ok, wp_exc, wp_bad, wo_some, wo_none, wo_if, wo_map, wo_bind, wp_of, ws_nx, ws_rt, ws_rf, ws_bk, ws_ct, ws_exc, ws_bad, wp_name, wp_c, wp_m2, wp_m1, wp_test, wp_truthN, wp_lenN, wp_ixN, wp_and, wp_or, wp_notT, wp_andV, wp_orV, wp_notV, wp_if, wp_ifF, wp_args0, wp_args1, wp_tup, wp_frz, wp_callB, wp_callF, wp_cat, wp_repL, wp_chain, wp_cut, wp_part0, wp_part1, wp_call, wp_callFr, wp_callBx, wp_popN, wp_index, wp_yes, wp_seqI, wp_range, wp_revI, wp_zip, ws_seq, ws_nil, ws_pass, ws_ret, ws_retF, ws_retN, ws_set, ws_setF, ws_if, ws_asg, ws_par, ws_par3, ws_parF, ws_aug, ws_append, ws_setIx, wpP_runP, wpF_runF, wpB_runB, wpP_ok, wpF_ok, wpP_exc, wpB_ok, ws_for', ws_forNil, wp_comp, wpC_nil, ev_g0, ev_gs, ev_gn, ev_s0, ev_ss, ev_m0, ev_m1, ev_a0, ev_a1, ev_r0, ev_rs, ev_l0, ev_l1, ev_d0, ev_d1, ev_ob, ev_om, ev_it, ev_if, ev_gl, ev_gl1, ev_dl, ev_dl1, ev_gla, ev_dla, add_ii, addI_ii, sub_ii, add_ll, add_tt, mod_ii, div_ii, pow_ii, mul_ii, mul_li, lt_ii, le_ii, gt_ii, ge_ii, neg_i, eq_ii, ne_ii, eq_bb, ne_bb, is_bb, isnot_bb, is_n, is_in, is_sn, is_bn, is_tn, is_ln, isnot_n, isnot_in, truth_b, truth_i, truth_l, truth_t, len_l, len_t, len_s, ix_l, ix_t, ix_s, seq_l, seq_t, seq_s, tuple_l, tuple_t, list_l, list_t, list_s, on1_p, abs_i, int_b, int_i, max_ii, min_ii, rev_l, rev_t, zip_ll, zip_tt, cat_ll, range_1, range_2, slot_0, slot_s, isi_int_i, isi_int_b, isi_bool_i, isi_bool_b, isi_tup_t, isi_tup_l, isi_lst_l, isi_lst_t, isi_str_s, isi_str_i, isi_str_b, isi_str_n, isi_lt_l, isi_lt_t, isi_lt_i, isi_lt_b, isi_lt_s, isi_lt_n, at_0, at_1, at_2, at_3, at_last, mg_name, mg_tup, mg_nil, mg_cons, own0_own, startR_eq, wipe_0, wipe_1, back_0, back_1, ixN_3_0, ixN_3_1, ixN_3_2, szl, sze, wp_dict, f__law_box, c__law_box]
  by_cases h : k < ns.length
  · have h' : ((k : Int) < (ns.length : Int)) = True := by simp; omega
    have e : atI ns (k : Int) = some ns[k] := by rw [at_nat, List.getElem?_eq_getElem h]
    simp -implicitDefEqProofs only [Nat.reduceSub, Nat.reduceAdd, Int.reduceLT, Int.reduceLE, Int.reduceGT, Int.reduceGE, Int.reduceEq, Int.reducePow, Nat.reducePow, Nat.reduceMul, Int.reduceNeg, Int.reduceToNat, Int.reduceAbs, Int.reduceMod, Int.reduceDiv, Int.reduceAdd, Int.reduceSub, Int.reduceMul, Nat.reduceLT, Nat.reduceLeDiff, Nat.reduceEqDiff, decide_eq_true_eq, decide_true, decide_false, and_true, true_and, true_or, or_true, false_or, or_false, and_false, false_and, if_false, ite_true, ite_false, PV.int.injEq, PV.bl.injEq, exists_eq_left', Bool.not_true, Bool.not_false, Bool.false_eq_true, not_true_eq_false, not_false_eq_true, reduceCtorEq, Option.some.injEq, wp_ok, wp_exc, wp_bad, wo_some, wo_none, wo_if, wo_map, wo_bind, wp_of, ws_nx, ws_rt, ws_rf, ws_bk, ws_ct, ws_exc, ws_bad, wp_name, wp_c, wp_m2, wp_m1, wp_test, wp_truthN, wp_lenN, wp_ixN, wp_and, wp_or, wp_notT, wp_andV, wp_orV, wp_notV, wp_if, wp_ifF, wp_args0, wp_args1, wp_tup, wp_frz, wp_callB, wp_callF, wp_cat, wp_repL, wp_chain, wp_cut, wp_part0, wp_part1, wp_call, wp_callFr, wp_callBx, wp_popN, wp_index, wp_yes, wp_seqI, wp_range, wp_revI, wp_zip, ws_seq, ws_nil, ws_pass, ws_ret, ws_retF, ws_retN, ws_set, ws_setF, ws_if, ws_asg, ws_par, ws_par3, ws_parF, ws_aug, ws_append, ws_setIx, wpP_runP, wpF_runF, wpB_runB, wpP_ok, wpF_ok, wpP_exc, wpB_ok, ws_for', ws_forNil, wp_comp, wpC_nil, ev_g0, ev_gs, ev_gn, ev_s0, ev_ss, ev_m0, ev_m1, ev_a0, ev_a1, ev_r0, ev_rs, ev_l0, ev_l1, ev_d0, ev_d1, ev_ob, ev_om, ev_it, ev_if, ev_gl, ev_gl1, ev_dl, ev_dl1, ev_gla, ev_dla, add_ii, addI_ii, sub_ii, add_ll, add_tt, mod_ii, div_ii, pow_ii, mul_ii, mul_li, lt_ii, le_ii, gt_ii, ge_ii, neg_i, eq_ii, ne_ii, eq_bb, ne_bb, is_bb, isnot_bb, is_n, is_in, is_sn, is_bn, is_tn, is_ln, isnot_n, isnot_in, truth_b, truth_i, truth_l, truth_t, len_l, len_t, len_s, ix_l, ix_t, ix_s, seq_l, seq_t, seq_s, tuple_l, tuple_t, list_l, list_t, list_s, on1_p, abs_i, int_b, int_i, max_ii, min_ii, rev_l, rev_t, zip_ll, zip_tt, cat_ll, range_1, range_2, slot_0, slot_s, isi_int_i, isi_int_b, isi_bool_i, isi_bool_b, isi_tup_t, isi_tup_l, isi_lst_l, isi_lst_t, isi_str_s, isi_str_i, isi_str_b, isi_str_n, isi_lt_l, isi_lt_t, isi_lt_i, isi_lt_b, isi_lt_s, isi_lt_n, at_0, at_1, at_2, at_3, at_last, mg_name, mg_tup, mg_nil, mg_cons, own0_own, startR_eq, wipe_0, wipe_1, back_0, back_1, ixN_3_0, ixN_3_1, ixN_3_2, szl, sze, wp_dict, h', e, hk']
    have f := fin ns[k]
    simp at f ⊢
    exact ⟨.inr (by split <;> omega), f⟩
  · have h' : ((k : Int) < (ns.length : Int)) = False := by simp; omega
    simp -implicitDefEqProofs only [Nat.reduceSub, Nat.reduceAdd, Int.reduceLT, Int.reduceLE, Int.reduceGT, Int.reduceGE, Int.reduceEq, Int.reducePow, Nat.reducePow, Nat.reduceMul, Int.reduceNeg, Int.reduceToNat, Int.reduceAbs, Int.reduceMod, Int.reduceDiv, Int.reduceAdd, Int.reduceSub, Int.reduceMul, Nat.reduceLT, Nat.reduceLeDiff, Nat.reduceEqDiff, decide_eq_true_eq, decide_true, decide_false, and_true, true_and, true_or, or_true, false_or, or_false, and_false, false_and, if_false, ite_true, ite_false, PV.int.injEq, PV.bl.injEq, exists_eq_left', Bool.not_true, Bool.not_false, Bool.false_eq_true, not_true_eq_false, not_false_eq_true, reduceCtorEq, Option.some.injEq, wp_ok, wp_exc, wp_bad, wo_some, wo_none, wo_if, wo_map, wo_bind, wp_of, ws_nx, ws_rt, ws_rf, ws_bk, ws_ct, ws_exc, ws_bad, wp_name, wp_c, wp_m2, wp_m1, wp_test, wp_truthN, wp_lenN, wp_ixN, wp_and, wp_or, wp_notT, wp_andV, wp_orV, wp_notV, wp_if, wp_ifF, wp_args0, wp_args1, wp_tup, wp_frz, wp_callB, wp_callF, wp_cat, wp_repL, wp_chain, wp_cut, wp_part0, wp_part1, wp_call, wp_callFr, wp_callBx, wp_popN, wp_index, wp_yes, wp_seqI, wp_range, wp_revI, wp_zip, ws_seq, ws_nil, ws_pass, ws_ret, ws_retF, ws_retN, ws_set, ws_setF, ws_if, ws_asg, ws_par, ws_par3, ws_parF, ws_aug, ws_append, ws_setIx, wpP_runP, wpF_runF, wpB_runB, wpP_ok, wpF_ok, wpP_exc, wpB_ok, ws_for', ws_forNil, wp_comp, wpC_nil, ev_g0, ev_gs, ev_gn, ev_s0, ev_ss, ev_m0, ev_m1, ev_a0, ev_a1, ev_r0, ev_rs, ev_l0, ev_l1, ev_d0, ev_d1, ev_ob, ev_om, ev_it, ev_if, ev_gl, ev_gl1, ev_dl, ev_dl1, ev_gla, ev_dla, add_ii, addI_ii, sub_ii, add_ll, add_tt, mod_ii, div_ii, pow_ii, mul_ii, mul_li, lt_ii, le_ii, gt_ii, ge_ii, neg_i, eq_ii, ne_ii, eq_bb, ne_bb, is_bb, isnot_bb, is_n, is_in, is_sn, is_bn, is_tn, is_ln, isnot_n, isnot_in, truth_b, truth_i, truth_l, truth_t, len_l, len_t, len_s, ix_l, ix_t, ix_s, seq_l, seq_t, seq_s, tuple_l, tuple_t, list_l, list_t, list_s, on1_p, abs_i, int_b, int_i, max_ii, min_ii, rev_l, rev_t, zip_ll, zip_tt, cat_ll, range_1, range_2, slot_0, slot_s, isi_int_i, isi_int_b, isi_bool_i, isi_bool_b, isi_tup_t, isi_tup_l, isi_lst_l, isi_lst_t, isi_str_s, isi_str_i, isi_str_b, isi_str_n, isi_lt_l, isi_lt_t, isi_lt_i, isi_lt_b, isi_lt_s, isi_lt_n, at_0, at_1, at_2, at_3, at_last, mg_name, mg_tup, mg_nil, mg_cons, own0_own, startR_eq, wipe_0, wipe_1, back_0, back_1, ixN_3_0, ixN_3_1, ixN_3_2, szl, sze, wp_dict, h', hk']
    have f := fin 0
    simpa using f
theorem of_ok {n : Nat} {xs l : List PV} (hx : Box n xs) (hn : n < 2 ^ 40) (h0 : l ≠ []) (h1 : l.length < 2 ^ 64) : WpB (fun p ys => p ∈ l ∧ Box (n + 1) ys) (fun _ _ => False) (f__law_of xs [.lst l]) := by
  have hl : 0 < l.length := List.length_pos_iff.mpr h0
  simp -implicitDefEqProofs only [Nat.reduceSub, Nat.reduceAdd, Int.reduceLT, Int.reduceLE, Int.reduceGT, Int.reduceGE, Int.reduceEq, Int.reducePow, Nat.reducePow, Nat.reduceMul, Int.reduceNeg, Int.reduceToNat, Int.reduceAbs, Int.reduceMod, Int.reduceDiv, Int.reduceAdd, Int.reduceSub, Int.reduceMul, Nat.reduceLT, Nat.reduceLeDiff, Nat.reduceEqDiff, decide_eq_true_eq, decide_true, decide_false, and_true, true_and, true_or, or_true, false_or, or_false, and_false, false_and, if_false, ite_true, ite_false, PV.int.injEq, PV.bl.injEq, exists_eq_left', Bool.not_true, Bool.not_false, Bool.false_eq_true, not_true_eq_false, not_false_eq_true, reduceCtorEq, Option.some.injEq, wp_ok, wp_exc, wp_bad, wo_some, wo_none, wo_if, wo_map, wo_bind, wp_of, ws_nx, ws_rt, ws_rf, ws_bk, ws_ct, ws_exc, ws_bad, wp_name, wp_c, wp_m2, wp_m1, wp_test, wp_truthN, wp_lenN, wp_ixN, wp_and, wp_or, wp_notT, wp_andV, wp_orV, wp_notV, wp_if, wp_ifF, wp_args0, wp_args1, wp_tup, wp_frz, wp_callB, wp_callF, wp_cat, wp_repL, wp_chain, wp_cut, wp_part0, wp_part1, wp_call, wp_callFr, wp_callBx, wp_popN, wp_index, wp_yes, wp_seqI, wp_range, wp_revI, wp_zip, ws_seq, ws_nil, ws_pass, ws_ret, ws_retF, ws_retN, ws_set, ws_setF, ws_if, ws_asg, ws_par, ws_par3, ws_parF, ws_aug, ws_append, ws_setIx, wpP_runP, wpF_runF, wpB_runB, wpP_ok, wpF_ok, wpP_exc, wpB_ok, ws_for', ws_forNil, wp_comp, wpC_nil, ev_g0, ev_gs, ev_gn, ev_s0, ev_ss, ev_m0, ev_m1, ev_a0, ev_a1, ev_r0, ev_rs, ev_l0, ev_l1, ev_d0, ev_d1, ev_ob, ev_om, ev_it, ev_if, ev_gl, ev_gl1, ev_dl, ev_dl1, ev_gla, ev_dla, add_ii, addI_ii, sub_ii, add_ll, add_tt, mod_ii, div_ii, pow_ii, mul_ii, mul_li, lt_ii, le_ii, gt_ii, ge_ii, neg_i, eq_ii, ne_ii, eq_bb, ne_bb, is_bb, isnot_bb, is_n, is_in, is_sn, is_bn, is_tn, is_ln, isnot_n, isnot_in, truth_b, truth_i, truth_l, truth_t, len_l, len_t, len_s, ix_l, ix_t, ix_s, seq_l, seq_t, seq_s, tuple_l, tuple_t, list_l, list_t, list_s, on1_p, abs_i, int_b, int_i, max_ii, min_ii, rev_l, rev_t, zip_ll, zip_tt, cat_ll, range_1, range_2, slot_0, slot_s, isi_int_i, isi_int_b, isi_bool_i, isi_bool_b, isi_tup_t, isi_tup_l, isi_lst_l, isi_lst_t, isi_str_s, isi_str_i, isi_str_b, isi_str_n, isi_lt_l, isi_lt_t, isi_lt_i, isi_lt_b, isi_lt_s, isi_lt_n, at_0, at_1, at_2, at_3, at_last, mg_name, mg_tup, mg_nil, mg_cons, own0_own, startR_eq, wipe_0, wipe_1, back_0, back_1, ixN_3_0, ixN_3_1, ixN_3_2, szl, sze, wp_dict, f__law_of, c__law_of]
  refine (take_ok hx hn (by omega) (by omega)).use fun p ys hp => ?_
  obtain ⟨r, rfl, hr0, hr1, hb⟩ := hp
  obtain ⟨m, rfl⟩ := Int.eq_ofNat_of_zero_le hr0
  have hm : m < l.length := by omega
  simp -implicitDefEqProofs only [Nat.reduceSub, Nat.reduceAdd, Int.reduceLT, Int.reduceLE, Int.reduceGT, Int.reduceGE, Int.reduceEq, Int.reducePow, Nat.reducePow, Nat.reduceMul, Int.reduceNeg, Int.reduceToNat, Int.reduceAbs, Int.reduceMod, Int.reduceDiv, Int.reduceAdd, Int.reduceSub, Int.reduceMul, Nat.reduceLT, Nat.reduceLeDiff, Nat.reduceEqDiff, decide_eq_true_eq, decide_true, decide_false, and_true, true_and, true_or, or_true, false_or, or_false, and_false, false_and, if_false, ite_true, ite_false, PV.int.injEq, PV.bl.injEq, exists_eq_left', Bool.not_true, Bool.not_false, Bool.false_eq_true, not_true_eq_false, not_false_eq_true, reduceCtorEq, Option.some.injEq, wp_ok, wp_exc, wp_bad, wo_some, wo_none, wo_if, wo_map, wo_bind, wp_of, ws_nx, ws_rt, ws_rf, ws_bk, ws_ct, ws_exc, ws_bad, wp_name, wp_c, wp_m2, wp_m1, wp_test, wp_truthN, wp_lenN, wp_ixN, wp_and, wp_or, wp_notT, wp_andV, wp_orV, wp_notV, wp_if, wp_ifF, wp_args0, wp_args1, wp_tup, wp_frz, wp_callB, wp_callF, wp_cat, wp_repL, wp_chain, wp_cut, wp_part0, wp_part1, wp_call, wp_callFr, wp_callBx, wp_popN, wp_index, wp_yes, wp_seqI, wp_range, wp_revI, wp_zip, ws_seq, ws_nil, ws_pass, ws_ret, ws_retF, ws_retN, ws_set, ws_setF, ws_if, ws_asg, ws_par, ws_par3, ws_parF, ws_aug, ws_append, ws_setIx, wpP_runP, wpF_runF, wpB_runB, wpP_ok, wpF_ok, wpP_exc, wpB_ok, ws_for', ws_forNil, wp_comp, wpC_nil, ev_g0, ev_gs, ev_gn, ev_s0, ev_ss, ev_m0, ev_m1, ev_a0, ev_a1, ev_r0, ev_rs, ev_l0, ev_l1, ev_d0, ev_d1, ev_ob, ev_om, ev_it, ev_if, ev_gl, ev_gl1, ev_dl, ev_dl1, ev_gla, ev_dla, add_ii, addI_ii, sub_ii, add_ll, add_tt, mod_ii, div_ii, pow_ii, mul_ii, mul_li, lt_ii, le_ii, gt_ii, ge_ii, neg_i, eq_ii, ne_ii, eq_bb, ne_bb, is_bb, isnot_bb, is_n, is_in, is_sn, is_bn, is_tn, is_ln, isnot_n, isnot_in, truth_b, truth_i, truth_l, truth_t, len_l, len_t, len_s, ix_l, ix_t, ix_s, seq_l, seq_t, seq_s, tuple_l, tuple_t, list_l, list_t, list_s, on1_p, abs_i, int_b, int_i, max_ii, min_ii, rev_l, rev_t, zip_ll, zip_tt, cat_ll, range_1, range_2, slot_0, slot_s, isi_int_i, isi_int_b, isi_bool_i, isi_bool_b, isi_tup_t, isi_tup_l, isi_lst_l, isi_lst_t, isi_str_s, isi_str_i, isi_str_b, isi_str_n, isi_lt_l, isi_lt_t, isi_lt_i, isi_lt_b, isi_lt_s, isi_lt_n, at_0, at_1, at_2, at_3, at_last, mg_name, mg_tup, mg_nil, mg_cons, own0_own, startR_eq, wipe_0, wipe_1, back_0, back_1, ixN_3_0, ixN_3_1, ixN_3_2, szl, sze, wp_dict, at_nat, List.getElem?_eq_getElem hm]
  exact ⟨List.getElem_mem hm, hb⟩
/-! alike -/
def Pl : Nat → PV → Prop
  | 0, _ => False
  | d + 1, p => match p with
    | .non => True | .bl _ => True | .int _ => True
    | .str x => PyData.strOk x = true
    | .tup xs => xs.length ≤ sizeLine ∧ ∀ x ∈ xs, Pl d x
    | .lst xs => xs.length ≤ sizeLine ∧ ∀ x ∈ xs, Pl d x
    | _ => False
theorem zip_self (xs : List PV) : List.zipWith pairP xs xs = xs.map fun x => pairP x x := by
  induction xs with
  | nil => rfl
  | cons x xs ih => simp [ih]
theorem bls_true (xs : List PV) : blsP (xs.map fun _ => .bl true) = some (xs.map fun _ => true) := by
  induction xs with
  | nil => rfl
  | cons x xs ih => simp [blsP, ih]
theorem same_refl : ∀ (d : Nat) (p : PV), Pl d p → f__law_same d [p, p] = .ok (.bl true)
  | 0, p, h => h.elim
  | d + 1, p, h => by
    have seq : ∀ xs : List PV, xs.length ≤ sizeLine → (∀ x ∈ xs, Pl d x) → ∀ (r : Rho) (QA : List PV → Rho → Prop), r.length = 4 → QA (xs.map fun _ => .bl true) ((r.set 3 .emp).set 2 .emp) →
        WpC QA (compL (mgTup (mgCons (mgName 2) (mgCons (mgName 3) (mgNil)))) (mYes) (mCall (f__law_same d) [mName 2, mName 3]) [2, 3] (xs.map fun x => pairP x x) [] ((r.set 3 .emp).set 2 .emp)) := fun xs hl hx r QA hr hq => by
      match r, hr with
      | [a, b, c, e], _ =>
      refine wpC_map (fun _ => .bl true) (by simpa using hl) (fun p hp => ?_) (by simpa [Function.comp_def] using hq)
      obtain ⟨x, hxm, rfl⟩ := List.mem_map.mp hp
      have ih := same_refl d x (hx x hxm)
      simp -implicitDefEqProofs only [Nat.reduceSub, Nat.reduceAdd, Int.reduceLT, Int.reduceLE, Int.reduceGT, Int.reduceGE, Int.reduceEq, Int.reducePow, Nat.reducePow, Nat.reduceMul, Int.reduceNeg, Int.reduceToNat, Int.reduceAbs, Int.reduceMod, Int.reduceDiv, Int.reduceAdd, Int.reduceSub, Int.reduceMul, Nat.reduceLT, Nat.reduceLeDiff, Nat.reduceEqDiff, decide_eq_true_eq, decide_true, decide_false, and_true, true_and, true_or, or_true, false_or, or_false, and_false, false_and, if_false, ite_true, ite_false, PV.int.injEq, PV.bl.injEq, exists_eq_left', Bool.not_true, Bool.not_false, Bool.false_eq_true, not_true_eq_false, not_false_eq_true, reduceCtorEq, Option.some.injEq, wp_ok, wp_exc, wp_bad, wo_some, wo_none, wo_if, wo_map, wo_bind, wp_of, ws_nx, ws_rt, ws_rf, ws_bk, ws_ct, ws_exc, ws_bad, wp_name, wp_c, wp_m2, wp_m1, wp_test, wp_truthN, wp_lenN, wp_ixN, wp_and, wp_or, wp_notT, wp_andV, wp_orV, wp_notV, wp_if, wp_ifF, wp_args0, wp_args1, wp_tup, wp_frz, wp_callB, wp_callF, wp_cat, wp_repL, wp_chain, wp_cut, wp_part0, wp_part1, wp_call, wp_callFr, wp_callBx, wp_popN, wp_index, wp_yes, wp_seqI, wp_range, wp_revI, wp_zip, ws_seq, ws_nil, ws_pass, ws_ret, ws_retF, ws_retN, ws_set, ws_setF, ws_if, ws_asg, ws_par, ws_par3, ws_parF, ws_aug, ws_append, ws_setIx, wpP_runP, wpF_runF, wpB_runB, wpP_ok, wpF_ok, wpP_exc, wpB_ok, ws_for', ws_forNil, wp_comp, wpC_nil, ev_g0, ev_gs, ev_gn, ev_s0, ev_ss, ev_m0, ev_m1, ev_a0, ev_a1, ev_r0, ev_rs, ev_l0, ev_l1, ev_d0, ev_d1, ev_ob, ev_om, ev_it, ev_if, ev_gl, ev_gl1, ev_dl, ev_dl1, ev_gla, ev_dla, add_ii, addI_ii, sub_ii, add_ll, add_tt, mod_ii, div_ii, pow_ii, mul_ii, mul_li, lt_ii, le_ii, gt_ii, ge_ii, neg_i, eq_ii, ne_ii, eq_bb, ne_bb, is_bb, isnot_bb, is_n, is_in, is_sn, is_bn, is_tn, is_ln, isnot_n, isnot_in, truth_b, truth_i, truth_l, truth_t, len_l, len_t, len_s, ix_l, ix_t, ix_s, seq_l, seq_t, seq_s, tuple_l, tuple_t, list_l, list_t, list_s, on1_p, abs_i, int_b, int_i, max_ii, min_ii, rev_l, rev_t, zip_ll, zip_tt, cat_ll, range_1, range_2, slot_0, slot_s, isi_int_i, isi_int_b, isi_bool_i, isi_bool_b, isi_tup_t, isi_tup_l, isi_lst_l, isi_lst_t, isi_str_s, isi_str_i, isi_str_b, isi_str_n, isi_lt_l, isi_lt_t, isi_lt_i, isi_lt_b, isi_lt_s, isi_lt_n, at_0, at_1, at_2, at_3, at_last, mg_name, mg_tup, mg_nil, mg_cons, own0_own, startR_eq, wipe_0, wipe_1, back_0, back_1, ixN_3_0, ixN_3_1, ixN_3_2, szl, sze, wp_dict, pairP, ih]
    rw [wpP_eq]
    rw [f__law_same]
    cases p with
    | non => simp -implicitDefEqProofs only [Nat.reduceSub, Nat.reduceAdd, Int.reduceLT, Int.reduceLE, Int.reduceGT, Int.reduceGE, Int.reduceEq, Int.reducePow, Nat.reducePow, Nat.reduceMul, Int.reduceNeg, Int.reduceToNat, Int.reduceAbs, Int.reduceMod, Int.reduceDiv, Int.reduceAdd, Int.reduceSub, Int.reduceMul, Nat.reduceLT, Nat.reduceLeDiff, Nat.reduceEqDiff, decide_eq_true_eq, decide_true, decide_false, and_true, true_and, true_or, or_true, false_or, or_false, and_false, false_and, if_false, ite_true, ite_false, PV.int.injEq, PV.bl.injEq, exists_eq_left', Bool.not_true, Bool.not_false, Bool.false_eq_true, not_true_eq_false, not_false_eq_true, reduceCtorEq, Option.some.injEq, wp_ok, wp_exc, wp_bad, wo_some, wo_none, wo_if, wo_map, wo_bind, wp_of, ws_nx, ws_rt, ws_rf, ws_bk, ws_ct, ws_exc, ws_bad, wp_name, wp_c, wp_m2, wp_m1, wp_test, wp_truthN, wp_lenN, wp_ixN, wp_and, wp_or, wp_notT, wp_andV, wp_orV, wp_notV, wp_if, wp_ifF, wp_args0, wp_args1, wp_tup, wp_frz, wp_callB, wp_callF, wp_cat, wp_repL, wp_chain, wp_cut, wp_part0, wp_part1, wp_call, wp_callFr, wp_callBx, wp_popN, wp_index, wp_yes, wp_seqI, wp_range, wp_revI, wp_zip, ws_seq, ws_nil, ws_pass, ws_ret, ws_retF, ws_retN, ws_set, ws_setF, ws_if, ws_asg, ws_par, ws_par3, ws_parF, ws_aug, ws_append, ws_setIx, wpP_runP, wpF_runF, wpB_runB, wpP_ok, wpF_ok, wpP_exc, wpB_ok, ws_for', ws_forNil, wp_comp, wpC_nil, ev_g0, ev_gs, ev_gn, ev_s0, ev_ss, ev_m0, ev_m1, ev_a0, ev_a1, ev_r0, ev_rs, ev_l0, ev_l1, ev_d0, ev_d1, ev_ob, ev_om, ev_it, ev_if, ev_gl, ev_gl1, ev_dl, ev_dl1, ev_gla, ev_dla, add_ii, addI_ii, sub_ii, add_ll, add_tt, mod_ii, div_ii, pow_ii, mul_ii, mul_li, lt_ii, le_ii, gt_ii, ge_ii, neg_i, eq_ii, ne_ii, eq_bb, ne_bb, is_bb, isnot_bb, is_n, is_in, is_sn, is_bn, is_tn, is_ln, isnot_n, isnot_in, truth_b, truth_i, truth_l, truth_t, len_l, len_t, len_s, ix_l, ix_t, ix_s, seq_l, seq_t, seq_s, tuple_l, tuple_t, list_l, list_t, list_s, on1_p, abs_i, int_b, int_i, max_ii, min_ii, rev_l, rev_t, zip_ll, zip_tt, cat_ll, range_1, range_2, slot_0, slot_s, isi_int_i, isi_int_b, isi_bool_i, isi_bool_b, isi_tup_t, isi_tup_l, isi_lst_l, isi_lst_t, isi_str_s, isi_str_i, isi_str_b, isi_str_n, isi_lt_l, isi_lt_t, isi_lt_i, isi_lt_b, isi_lt_s, isi_lt_n, at_0, at_1, at_2, at_3, at_last, mg_name, mg_tup, mg_nil, mg_cons, own0_own, startR_eq, wipe_0, wipe_1, back_0, back_1, ixN_3_0, ixN_3_1, ixN_3_2, szl, sze, wp_dict, c__law_same]; simp [pvEq, okD, pvD, PyData.eqv]
    | bl b => simp -implicitDefEqProofs only [Nat.reduceSub, Nat.reduceAdd, Int.reduceLT, Int.reduceLE, Int.reduceGT, Int.reduceGE, Int.reduceEq, Int.reducePow, Nat.reducePow, Nat.reduceMul, Int.reduceNeg, Int.reduceToNat, Int.reduceAbs, Int.reduceMod, Int.reduceDiv, Int.reduceAdd, Int.reduceSub, Int.reduceMul, Nat.reduceLT, Nat.reduceLeDiff, Nat.reduceEqDiff, decide_eq_true_eq, decide_true, decide_false, and_true, true_and, true_or, or_true, false_or, or_false, and_false, false_and, if_false, ite_true, ite_false, PV.int.injEq, PV.bl.injEq, exists_eq_left', Bool.not_true, Bool.not_false, Bool.false_eq_true, not_true_eq_false, not_false_eq_true, reduceCtorEq, Option.some.injEq, wp_ok, wp_exc, wp_bad, wo_some, wo_none, wo_if, wo_map, wo_bind, wp_of, ws_nx, ws_rt, ws_rf, ws_bk, ws_ct, ws_exc, ws_bad, wp_name, wp_c, wp_m2, wp_m1, wp_test, wp_truthN, wp_lenN, wp_ixN, wp_and, wp_or, wp_notT, wp_andV, wp_orV, wp_notV, wp_if, wp_ifF, wp_args0, wp_args1, wp_tup, wp_frz, wp_callB, wp_callF, wp_cat, wp_repL, wp_chain, wp_cut, wp_part0, wp_part1, wp_call, wp_callFr, wp_callBx, wp_popN, wp_index, wp_yes, wp_seqI, wp_range, wp_revI, wp_zip, ws_seq, ws_nil, ws_pass, ws_ret, ws_retF, ws_retN, ws_set, ws_setF, ws_if, ws_asg, ws_par, ws_par3, ws_parF, ws_aug, ws_append, ws_setIx, wpP_runP, wpF_runF, wpB_runB, wpP_ok, wpF_ok, wpP_exc, wpB_ok, ws_for', ws_forNil, wp_comp, wpC_nil, ev_g0, ev_gs, ev_gn, ev_s0, ev_ss, ev_m0, ev_m1, ev_a0, ev_a1, ev_r0, ev_rs, ev_l0, ev_l1, ev_d0, ev_d1, ev_ob, ev_om, ev_it, ev_if, ev_gl, ev_gl1, ev_dl, ev_dl1, ev_gla, ev_dla, add_ii, addI_ii, sub_ii, add_ll, add_tt, mod_ii, div_ii, pow_ii, mul_ii, mul_li, lt_ii, le_ii, gt_ii, ge_ii, neg_i, eq_ii, ne_ii, eq_bb, ne_bb, is_bb, isnot_bb, is_n, is_in, is_sn, is_bn, is_tn, is_ln, isnot_n, isnot_in, truth_b, truth_i, truth_l, truth_t, len_l, len_t, len_s, ix_l, ix_t, ix_s, seq_l, seq_t, seq_s, tuple_l, tuple_t, list_l, list_t, list_s, on1_p, abs_i, int_b, int_i, max_ii, min_ii, rev_l, rev_t, zip_ll, zip_tt, cat_ll, range_1, range_2, slot_0, slot_s, isi_int_i, isi_int_b, isi_bool_i, isi_bool_b, isi_tup_t, isi_tup_l, isi_lst_l, isi_lst_t, isi_str_s, isi_str_i, isi_str_b, isi_str_n, isi_lt_l, isi_lt_t, isi_lt_i, isi_lt_b, isi_lt_s, isi_lt_n, at_0, at_1, at_2, at_3, at_last, mg_name, mg_tup, mg_nil, mg_cons, own0_own, startR_eq, wipe_0, wipe_1, back_0, back_1, ixN_3_0, ixN_3_1, ixN_3_2, szl, sze, wp_dict, c__law_same]; simp [pvIs]
    | int i => simp -implicitDefEqProofs only [Nat.reduceSub, Nat.reduceAdd, Int.reduceLT, Int.reduceLE, Int.reduceGT, Int.reduceGE, Int.reduceEq, Int.reducePow, Nat.reducePow, Nat.reduceMul, Int.reduceNeg, Int.reduceToNat, Int.reduceAbs, Int.reduceMod, Int.reduceDiv, Int.reduceAdd, Int.reduceSub, Int.reduceMul, Nat.reduceLT, Nat.reduceLeDiff, Nat.reduceEqDiff, decide_eq_true_eq, decide_true, decide_false, and_true, true_and, true_or, or_true, false_or, or_false, and_false, false_and, if_false, ite_true, ite_false, PV.int.injEq, PV.bl.injEq, exists_eq_left', Bool.not_true, Bool.not_false, Bool.false_eq_true, not_true_eq_false, not_false_eq_true, reduceCtorEq, Option.some.injEq, wp_ok, wp_exc, wp_bad, wo_some, wo_none, wo_if, wo_map, wo_bind, wp_of, ws_nx, ws_rt, ws_rf, ws_bk, ws_ct, ws_exc, ws_bad, wp_name, wp_c, wp_m2, wp_m1, wp_test, wp_truthN, wp_lenN, wp_ixN, wp_and, wp_or, wp_notT, wp_andV, wp_orV, wp_notV, wp_if, wp_ifF, wp_args0, wp_args1, wp_tup, wp_frz, wp_callB, wp_callF, wp_cat, wp_repL, wp_chain, wp_cut, wp_part0, wp_part1, wp_call, wp_callFr, wp_callBx, wp_popN, wp_index, wp_yes, wp_seqI, wp_range, wp_revI, wp_zip, ws_seq, ws_nil, ws_pass, ws_ret, ws_retF, ws_retN, ws_set, ws_setF, ws_if, ws_asg, ws_par, ws_par3, ws_parF, ws_aug, ws_append, ws_setIx, wpP_runP, wpF_runF, wpB_runB, wpP_ok, wpF_ok, wpP_exc, wpB_ok, ws_for', ws_forNil, wp_comp, wpC_nil, ev_g0, ev_gs, ev_gn, ev_s0, ev_ss, ev_m0, ev_m1, ev_a0, ev_a1, ev_r0, ev_rs, ev_l0, ev_l1, ev_d0, ev_d1, ev_ob, ev_om, ev_it, ev_if, ev_gl, ev_gl1, ev_dl, ev_dl1, ev_gla, ev_dla, add_ii, addI_ii, sub_ii, add_ll, add_tt, mod_ii, div_ii, pow_ii, mul_ii, mul_li, lt_ii, le_ii, gt_ii, ge_ii, neg_i, eq_ii, ne_ii, eq_bb, ne_bb, is_bb, isnot_bb, is_n, is_in, is_sn, is_bn, is_tn, is_ln, isnot_n, isnot_in, truth_b, truth_i, truth_l, truth_t, len_l, len_t, len_s, ix_l, ix_t, ix_s, seq_l, seq_t, seq_s, tuple_l, tuple_t, list_l, list_t, list_s, on1_p, abs_i, int_b, int_i, max_ii, min_ii, rev_l, rev_t, zip_ll, zip_tt, cat_ll, range_1, range_2, slot_0, slot_s, isi_int_i, isi_int_b, isi_bool_i, isi_bool_b, isi_tup_t, isi_tup_l, isi_lst_l, isi_lst_t, isi_str_s, isi_str_i, isi_str_b, isi_str_n, isi_lt_l, isi_lt_t, isi_lt_i, isi_lt_b, isi_lt_s, isi_lt_n, at_0, at_1, at_2, at_3, at_last, mg_name, mg_tup, mg_nil, mg_cons, own0_own, startR_eq, wipe_0, wipe_1, back_0, back_1, ixN_3_0, ixN_3_1, ixN_3_2, szl, sze, wp_dict, c__law_same]; simp [pvIs]
    | str x =>
      have hx : PyData.strOk x = true := h
      simp -implicitDefEqProofs only [Nat.reduceSub, Nat.reduceAdd, Int.reduceLT, Int.reduceLE, Int.reduceGT, Int.reduceGE, Int.reduceEq, Int.reducePow, Nat.reducePow, Nat.reduceMul, Int.reduceNeg, Int.reduceToNat, Int.reduceAbs, Int.reduceMod, Int.reduceDiv, Int.reduceAdd, Int.reduceSub, Int.reduceMul, Nat.reduceLT, Nat.reduceLeDiff, Nat.reduceEqDiff, decide_eq_true_eq, decide_true, decide_false, and_true, true_and, true_or, or_true, false_or, or_false, and_false, false_and, if_false, ite_true, ite_false, PV.int.injEq, PV.bl.injEq, exists_eq_left', Bool.not_true, Bool.not_false, Bool.false_eq_true, not_true_eq_false, not_false_eq_true, reduceCtorEq, Option.some.injEq, wp_ok, wp_exc, wp_bad, wo_some, wo_none, wo_if, wo_map, wo_bind, wp_of, ws_nx, ws_rt, ws_rf, ws_bk, ws_ct, ws_exc, ws_bad, wp_name, wp_c, wp_m2, wp_m1, wp_test, wp_truthN, wp_lenN, wp_ixN, wp_and, wp_or, wp_notT, wp_andV, wp_orV, wp_notV, wp_if, wp_ifF, wp_args0, wp_args1, wp_tup, wp_frz, wp_callB, wp_callF, wp_cat, wp_repL, wp_chain, wp_cut, wp_part0, wp_part1, wp_call, wp_callFr, wp_callBx, wp_popN, wp_index, wp_yes, wp_seqI, wp_range, wp_revI, wp_zip, ws_seq, ws_nil, ws_pass, ws_ret, ws_retF, ws_retN, ws_set, ws_setF, ws_if, ws_asg, ws_par, ws_par3, ws_parF, ws_aug, ws_append, ws_setIx, wpP_runP, wpF_runF, wpB_runB, wpP_ok, wpF_ok, wpP_exc, wpB_ok, ws_for', ws_forNil, wp_comp, wpC_nil, ev_g0, ev_gs, ev_gn, ev_s0, ev_ss, ev_m0, ev_m1, ev_a0, ev_a1, ev_r0, ev_rs, ev_l0, ev_l1, ev_d0, ev_d1, ev_ob, ev_om, ev_it, ev_if, ev_gl, ev_gl1, ev_dl, ev_dl1, ev_gla, ev_dla, add_ii, addI_ii, sub_ii, add_ll, add_tt, mod_ii, div_ii, pow_ii, mul_ii, mul_li, lt_ii, le_ii, gt_ii, ge_ii, neg_i, eq_ii, ne_ii, eq_bb, ne_bb, is_bb, isnot_bb, is_n, is_in, is_sn, is_bn, is_tn, is_ln, isnot_n, isnot_in, truth_b, truth_i, truth_l, truth_t, len_l, len_t, len_s, ix_l, ix_t, ix_s, seq_l, seq_t, seq_s, tuple_l, tuple_t, list_l, list_t, list_s, on1_p, abs_i, int_b, int_i, max_ii, min_ii, rev_l, rev_t, zip_ll, zip_tt, cat_ll, range_1, range_2, slot_0, slot_s, isi_int_i, isi_int_b, isi_bool_i, isi_bool_b, isi_tup_t, isi_tup_l, isi_lst_l, isi_lst_t, isi_str_s, isi_str_i, isi_str_b, isi_str_n, isi_lt_l, isi_lt_t, isi_lt_i, isi_lt_b, isi_lt_s, isi_lt_n, at_0, at_1, at_2, at_3, at_last, mg_name, mg_tup, mg_nil, mg_cons, own0_own, startR_eq, wipe_0, wipe_1, back_0, back_1, ixN_3_0, ixN_3_1, ixN_3_2, szl, sze, wp_dict, c__law_same, eq_ss hx hx]; simp
    | tup xs =>
      simp -implicitDefEqProofs only [Nat.reduceSub, Nat.reduceAdd, Int.reduceLT, Int.reduceLE, Int.reduceGT, Int.reduceGE, Int.reduceEq, Int.reducePow, Nat.reducePow, Nat.reduceMul, Int.reduceNeg, Int.reduceToNat, Int.reduceAbs, Int.reduceMod, Int.reduceDiv, Int.reduceAdd, Int.reduceSub, Int.reduceMul, Nat.reduceLT, Nat.reduceLeDiff, Nat.reduceEqDiff, decide_eq_true_eq, decide_true, decide_false, and_true, true_and, true_or, or_true, false_or, or_false, and_false, false_and, if_false, ite_true, ite_false, PV.int.injEq, PV.bl.injEq, exists_eq_left', Bool.not_true, Bool.not_false, Bool.false_eq_true, not_true_eq_false, not_false_eq_true, reduceCtorEq, Option.some.injEq, wp_ok, wp_exc, wp_bad, wo_some, wo_none, wo_if, wo_map, wo_bind, wp_of, ws_nx, ws_rt, ws_rf, ws_bk, ws_ct, ws_exc, ws_bad, wp_name, wp_c, wp_m2, wp_m1, wp_test, wp_truthN, wp_lenN, wp_ixN, wp_and, wp_or, wp_notT, wp_andV, wp_orV, wp_notV, wp_if, wp_ifF, wp_args0, wp_args1, wp_tup, wp_frz, wp_callB, wp_callF, wp_cat, wp_repL, wp_chain, wp_cut, wp_part0, wp_part1, wp_call, wp_callFr, wp_callBx, wp_popN, wp_index, wp_yes, wp_seqI, wp_range, wp_revI, wp_zip, ws_seq, ws_nil, ws_pass, ws_ret, ws_retF, ws_retN, ws_set, ws_setF, ws_if, ws_asg, ws_par, ws_par3, ws_parF, ws_aug, ws_append, ws_setIx, wpP_runP, wpF_runF, wpB_runB, wpP_ok, wpF_ok, wpP_exc, wpB_ok, ws_for', ws_forNil, wp_comp, wpC_nil, ev_g0, ev_gs, ev_gn, ev_s0, ev_ss, ev_m0, ev_m1, ev_a0, ev_a1, ev_r0, ev_rs, ev_l0, ev_l1, ev_d0, ev_d1, ev_ob, ev_om, ev_it, ev_if, ev_gl, ev_gl1, ev_dl, ev_dl1, ev_gla, ev_dla, add_ii, addI_ii, sub_ii, add_ll, add_tt, mod_ii, div_ii, pow_ii, mul_ii, mul_li, lt_ii, le_ii, gt_ii, ge_ii, neg_i, eq_ii, ne_ii, eq_bb, ne_bb, is_bb, isnot_bb, is_n, is_in, is_sn, is_bn, is_tn, is_ln, isnot_n, isnot_in, truth_b, truth_i, truth_l, truth_t, len_l, len_t, len_s, ix_l, ix_t, ix_s, seq_l, seq_t, seq_s, tuple_l, tuple_t, list_l, list_t, list_s, on1_p, abs_i, int_b, int_i, max_ii, min_ii, rev_l, rev_t, zip_ll, zip_tt, cat_ll, range_1, range_2, slot_0, slot_s, isi_int_i, isi_int_b, isi_bool_i, isi_bool_b, isi_tup_t, isi_tup_l, isi_lst_l, isi_lst_t, isi_str_s, isi_str_i, isi_str_b, isi_str_n, isi_lt_l, isi_lt_t, isi_lt_i, isi_lt_b, isi_lt_s, isi_lt_n, at_0, at_1, at_2, at_3, at_last, mg_name, mg_tup, mg_nil, mg_cons, own0_own, startR_eq, wipe_0, wipe_1, back_0, back_1, ixN_3_0, ixN_3_1, ixN_3_2, szl, sze, wp_dict, c__law_same, zip_self]
      refine seq xs h.1 h.2 [_, _, .emp, .emp] _ rfl ?_
      simp -implicitDefEqProofs only [Nat.reduceSub, Nat.reduceAdd, Int.reduceLT, Int.reduceLE, Int.reduceGT, Int.reduceGE, Int.reduceEq, Int.reducePow, Nat.reducePow, Nat.reduceMul, Int.reduceNeg, Int.reduceToNat, Int.reduceAbs, Int.reduceMod, Int.reduceDiv, Int.reduceAdd, Int.reduceSub, Int.reduceMul, Nat.reduceLT, Nat.reduceLeDiff, Nat.reduceEqDiff, decide_eq_true_eq, decide_true, decide_false, and_true, true_and, true_or, or_true, false_or, or_false, and_false, false_and, if_false, ite_true, ite_false, PV.int.injEq, PV.bl.injEq, exists_eq_left', Bool.not_true, Bool.not_false, Bool.false_eq_true, not_true_eq_false, not_false_eq_true, reduceCtorEq, Option.some.injEq, wp_ok, wp_exc, wp_bad, wo_some, wo_none, wo_if, wo_map, wo_bind, wp_of, ws_nx, ws_rt, ws_rf, ws_bk, ws_ct, ws_exc, ws_bad, wp_name, wp_c, wp_m2, wp_m1, wp_test, wp_truthN, wp_lenN, wp_ixN, wp_and, wp_or, wp_notT, wp_andV, wp_orV, wp_notV, wp_if, wp_ifF, wp_args0, wp_args1, wp_tup, wp_frz, wp_callB, wp_callF, wp_cat, wp_repL, wp_chain, wp_cut, wp_part0, wp_part1, wp_call, wp_callFr, wp_callBx, wp_popN, wp_index, wp_yes, wp_seqI, wp_range, wp_revI, wp_zip, ws_seq, ws_nil, ws_pass, ws_ret, ws_retF, ws_retN, ws_set, ws_setF, ws_if, ws_asg, ws_par, ws_par3, ws_parF, ws_aug, ws_append, ws_setIx, wpP_runP, wpF_runF, wpB_runB, wpP_ok, wpF_ok, wpP_exc, wpB_ok, ws_for', ws_forNil, wp_comp, wpC_nil, ev_g0, ev_gs, ev_gn, ev_s0, ev_ss, ev_m0, ev_m1, ev_a0, ev_a1, ev_r0, ev_rs, ev_l0, ev_l1, ev_d0, ev_d1, ev_ob, ev_om, ev_it, ev_if, ev_gl, ev_gl1, ev_dl, ev_dl1, ev_gla, ev_dla, add_ii, addI_ii, sub_ii, add_ll, add_tt, mod_ii, div_ii, pow_ii, mul_ii, mul_li, lt_ii, le_ii, gt_ii, ge_ii, neg_i, eq_ii, ne_ii, eq_bb, ne_bb, is_bb, isnot_bb, is_n, is_in, is_sn, is_bn, is_tn, is_ln, isnot_n, isnot_in, truth_b, truth_i, truth_l, truth_t, len_l, len_t, len_s, ix_l, ix_t, ix_s, seq_l, seq_t, seq_s, tuple_l, tuple_t, list_l, list_t, list_s, on1_p, abs_i, int_b, int_i, max_ii, min_ii, rev_l, rev_t, zip_ll, zip_tt, cat_ll, range_1, range_2, slot_0, slot_s, isi_int_i, isi_int_b, isi_bool_i, isi_bool_b, isi_tup_t, isi_tup_l, isi_lst_l, isi_lst_t, isi_str_s, isi_str_i, isi_str_b, isi_str_n, isi_lt_l, isi_lt_t, isi_lt_i, isi_lt_b, isi_lt_s, isi_lt_n, at_0, at_1, at_2, at_3, at_last, mg_name, mg_tup, mg_nil, mg_cons, own0_own, startR_eq, wipe_0, wipe_1, back_0, back_1, ixN_3_0, ixN_3_1, ixN_3_2, szl, sze, wp_dict, pvAll, bls_true]
      simp
    | lst xs =>
      simp -implicitDefEqProofs only [Nat.reduceSub, Nat.reduceAdd, Int.reduceLT, Int.reduceLE, Int.reduceGT, Int.reduceGE, Int.reduceEq, Int.reducePow, Nat.reducePow, Nat.reduceMul, Int.reduceNeg, Int.reduceToNat, Int.reduceAbs, Int.reduceMod, Int.reduceDiv, Int.reduceAdd, Int.reduceSub, Int.reduceMul, Nat.reduceLT, Nat.reduceLeDiff, Nat.reduceEqDiff, decide_eq_true_eq, decide_true, decide_false, and_true, true_and, true_or, or_true, false_or, or_false, and_false, false_and, if_false, ite_true, ite_false, PV.int.injEq, PV.bl.injEq, exists_eq_left', Bool.not_true, Bool.not_false, Bool.false_eq_true, not_true_eq_false, not_false_eq_true, reduceCtorEq, Option.some.injEq, wp_ok, wp_exc, wp_bad, wo_some, wo_none, wo_if, wo_map, wo_bind, wp_of, ws_nx, ws_rt, ws_rf, ws_bk, ws_ct, ws_exc, ws_bad, wp_name, wp_c, wp_m2, wp_m1, wp_test, wp_truthN, wp_lenN, wp_ixN, wp_and, wp_or, wp_notT, wp_andV, wp_orV, wp_notV, wp_if, wp_ifF, wp_args0, wp_args1, wp_tup, wp_frz, wp_callB, wp_callF, wp_cat, wp_repL, wp_chain, wp_cut, wp_part0, wp_part1, wp_call, wp_callFr, wp_callBx, wp_popN, wp_index, wp_yes, wp_seqI, wp_range, wp_revI, wp_zip, ws_seq, ws_nil, ws_pass, ws_ret, ws_retF, ws_retN, ws_set, ws_setF, ws_if, ws_asg, ws_par, ws_par3, ws_parF, ws_aug, ws_append, ws_setIx, wpP_runP, wpF_runF, wpB_runB, wpP_ok, wpF_ok, wpP_exc, wpB_ok, ws_for', ws_forNil, wp_comp, wpC_nil, ev_g0, ev_gs, ev_gn, ev_s0, ev_ss, ev_m0, ev_m1, ev_a0, ev_a1, ev_r0, ev_rs, ev_l0, ev_l1, ev_d0, ev_d1, ev_ob, ev_om, ev_it, ev_if, ev_gl, ev_gl1, ev_dl, ev_dl1, ev_gla, ev_dla, add_ii, addI_ii, sub_ii, add_ll, add_tt, mod_ii, div_ii, pow_ii, mul_ii, mul_li, lt_ii, le_ii, gt_ii, ge_ii, neg_i, eq_ii, ne_ii, eq_bb, ne_bb, is_bb, isnot_bb, is_n, is_in, is_sn, is_bn, is_tn, is_ln, isnot_n, isnot_in, truth_b, truth_i, truth_l, truth_t, len_l, len_t, len_s, ix_l, ix_t, ix_s, seq_l, seq_t, seq_s, tuple_l, tuple_t, list_l, list_t, list_s, on1_p, abs_i, int_b, int_i, max_ii, min_ii, rev_l, rev_t, zip_ll, zip_tt, cat_ll, range_1, range_2, slot_0, slot_s, isi_int_i, isi_int_b, isi_bool_i, isi_bool_b, isi_tup_t, isi_tup_l, isi_lst_l, isi_lst_t, isi_str_s, isi_str_i, isi_str_b, isi_str_n, isi_lt_l, isi_lt_t, isi_lt_i, isi_lt_b, isi_lt_s, isi_lt_n, at_0, at_1, at_2, at_3, at_last, mg_name, mg_tup, mg_nil, mg_cons, own0_own, startR_eq, wipe_0, wipe_1, back_0, back_1, ixN_3_0, ixN_3_1, ixN_3_2, szl, sze, wp_dict, c__law_same, zip_self]
      refine seq xs h.1 h.2 [_, _, .emp, .emp] _ rfl ?_
      simp -implicitDefEqProofs only [Nat.reduceSub, Nat.reduceAdd, Int.reduceLT, Int.reduceLE, Int.reduceGT, Int.reduceGE, Int.reduceEq, Int.reducePow, Nat.reducePow, Nat.reduceMul, Int.reduceNeg, Int.reduceToNat, Int.reduceAbs, Int.reduceMod, Int.reduceDiv, Int.reduceAdd, Int.reduceSub, Int.reduceMul, Nat.reduceLT, Nat.reduceLeDiff, Nat.reduceEqDiff, decide_eq_true_eq, decide_true, decide_false, and_true, true_and, true_or, or_true, false_or, or_false, and_false, false_and, if_false, ite_true, ite_false, PV.int.injEq, PV.bl.injEq, exists_eq_left', Bool.not_true, Bool.not_false, Bool.false_eq_true, not_true_eq_false, not_false_eq_true, reduceCtorEq, Option.some.injEq, wp_ok, wp_exc, wp_bad, wo_some, wo_none, wo_if, wo_map, wo_bind, wp_of, ws_nx, ws_rt, ws_rf, ws_bk, ws_ct, ws_exc, ws_bad, wp_name, wp_c, wp_m2, wp_m1, wp_test, wp_truthN, wp_lenN, wp_ixN, wp_and, wp_or, wp_notT, wp_andV, wp_orV, wp_notV, wp_if, wp_ifF, wp_args0, wp_args1, wp_tup, wp_frz, wp_callB, wp_callF, wp_cat, wp_repL, wp_chain, wp_cut, wp_part0, wp_part1, wp_call, wp_callFr, wp_callBx, wp_popN, wp_index, wp_yes, wp_seqI, wp_range, wp_revI, wp_zip, ws_seq, ws_nil, ws_pass, ws_ret, ws_retF, ws_retN, ws_set, ws_setF, ws_if, ws_asg, ws_par, ws_par3, ws_parF, ws_aug, ws_append, ws_setIx, wpP_runP, wpF_runF, wpB_runB, wpP_ok, wpF_ok, wpP_exc, wpB_ok, ws_for', ws_forNil, wp_comp, wpC_nil, ev_g0, ev_gs, ev_gn, ev_s0, ev_ss, ev_m0, ev_m1, ev_a0, ev_a1, ev_r0, ev_rs, ev_l0, ev_l1, ev_d0, ev_d1, ev_ob, ev_om, ev_it, ev_if, ev_gl, ev_gl1, ev_dl, ev_dl1, ev_gla, ev_dla, add_ii, addI_ii, sub_ii, add_ll, add_tt, mod_ii, div_ii, pow_ii, mul_ii, mul_li, lt_ii, le_ii, gt_ii, ge_ii, neg_i, eq_ii, ne_ii, eq_bb, ne_bb, is_bb, isnot_bb, is_n, is_in, is_sn, is_bn, is_tn, is_ln, isnot_n, isnot_in, truth_b, truth_i, truth_l, truth_t, len_l, len_t, len_s, ix_l, ix_t, ix_s, seq_l, seq_t, seq_s, tuple_l, tuple_t, list_l, list_t, list_s, on1_p, abs_i, int_b, int_i, max_ii, min_ii, rev_l, rev_t, zip_ll, zip_tt, cat_ll, range_1, range_2, slot_0, slot_s, isi_int_i, isi_int_b, isi_bool_i, isi_bool_b, isi_tup_t, isi_tup_l, isi_lst_l, isi_lst_t, isi_str_s, isi_str_i, isi_str_b, isi_str_n, isi_lt_l, isi_lt_t, isi_lt_i, isi_lt_b, isi_lt_s, isi_lt_n, at_0, at_1, at_2, at_3, at_last, mg_name, mg_tup, mg_nil, mg_cons, own0_own, startR_eq, wipe_0, wipe_1, back_0, back_1, ixN_3_0, ixN_3_1, ixN_3_2, szl, sze, wp_dict, pvAll, bls_true]
      simp
    | dic _ _ => exact h.elim
    | scr _ => exact h.elim
    | ty _ => exact h.elim
/-! turns -/
def wy (b : Bool) : Str := if b then "forth" else "back"
abbrev T := Bool × Int
def tv (t : T) : PV := .tup [.str (wy t.1), .int t.2]
theorem wy_ok (b : Bool) : PyData.strOk (wy b) = true := by cases b <;> decide +kernel
theorem wy_eq (a b : Bool) : (wy a == wy b) = (a == b) := by cases a <;> cases b <;> decide +kernel
theorem eq_ww (a b : Bool) : pvEq (.str (wy a)) (.str (wy b)) = some (.bl (a == b)) := by rw [eq_ss (wy_ok a) (wy_ok b), wy_eq]
theorem ix_tv0 (t : T) : pvIx (tv t) (.int 0) = some (.str (wy t.1)) := rfl
theorem ix_tv1 (t : T) : pvIx (tv t) (.int 1) = some (.int t.2) := rfl
theorem tv_mk (w : Bool) (m : Int) : PV.tup [.str (wy w), .int m] = tv (w, m) := rfl
theorem mg_tv {gs : MGs} {r : Rho} (t : T) : mgTup gs (tv t) r = gs [.str (wy t.1), .int t.2] r := rfl
theorem tuple_tv (t : T) : pvTuple (tv t) = some (tv t) := rfl
/-- the last one first -/
def coll (w : Bool) : Nat → List T → List T
  | 0, l => l
  | n + 1, a :: b :: c :: r => if b.2 ≤ min c.2 a.2 then coll w n ((w, c.2 - b.2 + a.2) :: r) else a :: b :: c :: r
  | _ + 1, l => l
def wtR (l : List T) (t : T) : List T := match l with
  | [] => coll t.1 (l.length + 1) [t]
  | a :: r => if a.1 = t.1 then coll t.1 (l.length + 1) ((t.1, t.2 + a.2) :: r) else coll t.1 (l.length + 1) (t :: a :: r)
def fgR (l : List T) : List T := l.foldl wtR []
def fg (l : List T) : List T := (fgR l).reverse
def tvs (l : List T) : List PV := l.map tv
theorem at_2l {α : Type} {l : List α} {a b : α} : atI (l ++ [b] ++ [a]) (-2) = some b := by
  have := at_neg (l := l ++ [b] ++ [a]) (n := 1) (by simp)
  simpa using this
theorem at_3l {α : Type} {l : List α} {a b c : α} : atI (l ++ [c] ++ [b] ++ [a]) (-3) = some c := by
  have := at_neg (l := l ++ [c] ++ [b] ++ [a]) (n := 2) (by simp)
  simpa using this
theorem coll_len (w : Bool) : ∀ (n : Nat) (l : List T), (coll w n l).length ≤ l.length
  | 0, l => by simp [coll]
  | n + 1, [] => by simp [coll]
  | n + 1, [a] => by simp [coll]
  | n + 1, [a, b] => by simp [coll]
  | n + 1, a :: b :: c :: r => by
    rw [coll]
    split
    · have := coll_len w n ((w, c.2 - b.2 + a.2) :: r)
      simp at this ⊢; omega
    · simp
theorem wt_len (l : List T) (t : T) : (wtR l t).length ≤ l.length + 1 := by
  unfold wtR
  split
  · exact coll_len _ _ _
  · split
    · have := coll_len t.1 ((‹T› :: ‹List T›).length + 1) ((t.1, t.2 + (‹T›).2) :: ‹List T›)
      simp at this ⊢; omega
    · have := coll_len t.1 ((‹T› :: ‹List T›).length + 1) (t :: ‹T› :: ‹List T›)
      simp at this ⊢; omega
theorem tvs_rev (a : T) (l : List T) : tvs (a :: l).reverse = tvs l.reverse ++ [tv a] := by simp [tvs]
theorem with_ok (l : List T) (t : T) (hl : l.length ≤ 1000) : f_with_turn [.lst (tvs l.reverse), tv t] = .ok (.lst (tvs (wtR l t).reverse)) := by
  obtain ⟨w, m⟩ := t
  rw [wpP_eq]
  have loop : ∀ (n : Nat) (l : List T) (x1 x2 x3 x4 x5 x6 : Slot) (Q : PV → Prop), l.length ≤ n → n ≤ 1002 → Q (.lst (tvs (coll w n l).reverse)) →
      WpS { nx := fun ρ1 => WpS { nx := fun _ => Q .non, rt := fun p _ => Q p, ex := fun _ _ => False } (mRet (mName 4) ρ1), rt := fun p _ => Q p, ex := fun _ _ => False }
        (mWhile (mAnd (mTest (m2 pvGt (mLenN 4) (mC (.int 2)))) (mTest (m2 pvLe (m2 pvIx (mIxN 4 (m1 pvNeg (mC (.int 2)))) (mC (.int 1))) (mCallB (pvMin) [m2 pvIx (mIxN 4 (m1 pvNeg (mC (.int 3)))) (mC (.int 1)), m2 pvIx (mIxN 4 (m1 pvNeg (mC (.int 1)))) (mC (.int 1))])))) (mSeq (mPar3 5 6 7 [mPopN 4, mPopN 4, mPopN 4]) (mAppend 4 (mTup [mName 2, m2 pvAdd (m2 pvSub (mIxN 7 (mC (.int 1))) (mIxN 6 (mC (.int 1)))) (mIxN 5 (mC (.int 1)))])))
          [x1, x2, .val (.str (wy w)), x3, .own (tvs l.reverse), x4, x5, x6]) := by
    intro n
    induction n with
    | zero =>
      intro l x1 x2 x3 x4 x5 x6 Q hl _ hq
      have : l = [] := List.length_eq_zero_iff.mp (by omega)
      subst this
      rw [ws_whileEq]
      simp -implicitDefEqProofs only [Nat.reduceSub, Nat.reduceAdd, Int.reduceLT, Int.reduceLE, Int.reduceGT, Int.reduceGE, Int.reduceEq, Int.reducePow, Nat.reducePow, Nat.reduceMul, Int.reduceNeg, Int.reduceToNat, Int.reduceAbs, Int.reduceMod, Int.reduceDiv, Int.reduceAdd, Int.reduceSub, Int.reduceMul, Nat.reduceLT, Nat.reduceLeDiff, Nat.reduceEqDiff, decide_eq_true_eq, decide_true, decide_false, and_true, true_and, true_or, or_true, false_or, or_false, and_false, false_and, if_false, ite_true, ite_false, PV.int.injEq, PV.bl.injEq, exists_eq_left', Bool.not_true, Bool.not_false, Bool.false_eq_true, not_true_eq_false, not_false_eq_true, reduceCtorEq, Option.some.injEq, wp_ok, wp_exc, wp_bad, wo_some, wo_none, wo_if, wo_map, wo_bind, wp_of, ws_nx, ws_rt, ws_rf, ws_bk, ws_ct, ws_exc, ws_bad, wp_name, wp_c, wp_m2, wp_m1, wp_test, wp_truthN, wp_lenN, wp_ixN, wp_and, wp_or, wp_notT, wp_andV, wp_orV, wp_notV, wp_if, wp_ifF, wp_args0, wp_args1, wp_tup, wp_frz, wp_callB, wp_callF, wp_cat, wp_repL, wp_chain, wp_cut, wp_part0, wp_part1, wp_call, wp_callFr, wp_callBx, wp_popN, wp_index, wp_yes, wp_seqI, wp_range, wp_revI, wp_zip, ws_seq, ws_nil, ws_pass, ws_ret, ws_retF, ws_retN, ws_set, ws_setF, ws_if, ws_asg, ws_par, ws_par3, ws_parF, ws_aug, ws_append, ws_setIx, wpP_runP, wpF_runF, wpB_runB, wpP_ok, wpF_ok, wpP_exc, wpB_ok, ws_for', ws_forNil, wp_comp, wpC_nil, ev_g0, ev_gs, ev_gn, ev_s0, ev_ss, ev_m0, ev_m1, ev_a0, ev_a1, ev_r0, ev_rs, ev_l0, ev_l1, ev_d0, ev_d1, ev_ob, ev_om, ev_it, ev_if, ev_gl, ev_gl1, ev_dl, ev_dl1, ev_gla, ev_dla, add_ii, addI_ii, sub_ii, add_ll, add_tt, mod_ii, div_ii, pow_ii, mul_ii, mul_li, lt_ii, le_ii, gt_ii, ge_ii, neg_i, eq_ii, ne_ii, eq_bb, ne_bb, is_bb, isnot_bb, is_n, is_in, is_sn, is_bn, is_tn, is_ln, isnot_n, isnot_in, truth_b, truth_i, truth_l, truth_t, len_l, len_t, len_s, ix_l, ix_t, ix_s, seq_l, seq_t, seq_s, tuple_l, tuple_t, list_l, list_t, list_s, on1_p, abs_i, int_b, int_i, max_ii, min_ii, rev_l, rev_t, zip_ll, zip_tt, cat_ll, range_1, range_2, slot_0, slot_s, isi_int_i, isi_int_b, isi_bool_i, isi_bool_b, isi_tup_t, isi_tup_l, isi_lst_l, isi_lst_t, isi_str_s, isi_str_i, isi_str_b, isi_str_n, isi_lt_l, isi_lt_t, isi_lt_i, isi_lt_b, isi_lt_s, isi_lt_n, at_0, at_1, at_2, at_3, at_last, mg_name, mg_tup, mg_nil, mg_cons, own0_own, startR_eq, wipe_0, wipe_1, back_0, back_1, ixN_3_0, ixN_3_1, ixN_3_2, szl, sze, wp_dict, eq_ww, ix_tv0, ix_tv1, tv_mk, mg_tv, tuple_tv, tvs]
      simpa [coll, tvs] using hq
    | succ n ih =>
      intro l x1 x2 x3 x4 x5 x6 Q hl hn hq
      match l, hl, hq with
      | [], _, hq => rw [ws_whileEq]; simp -implicitDefEqProofs only [Nat.reduceSub, Nat.reduceAdd, Int.reduceLT, Int.reduceLE, Int.reduceGT, Int.reduceGE, Int.reduceEq, Int.reducePow, Nat.reducePow, Nat.reduceMul, Int.reduceNeg, Int.reduceToNat, Int.reduceAbs, Int.reduceMod, Int.reduceDiv, Int.reduceAdd, Int.reduceSub, Int.reduceMul, Nat.reduceLT, Nat.reduceLeDiff, Nat.reduceEqDiff, decide_eq_true_eq, decide_true, decide_false, and_true, true_and, true_or, or_true, false_or, or_false, and_false, false_and, if_false, ite_true, ite_false, PV.int.injEq, PV.bl.injEq, exists_eq_left', Bool.not_true, Bool.not_false, Bool.false_eq_true, not_true_eq_false, not_false_eq_true, reduceCtorEq, Option.some.injEq, wp_ok, wp_exc, wp_bad, wo_some, wo_none, wo_if, wo_map, wo_bind, wp_of, ws_nx, ws_rt, ws_rf, ws_bk, ws_ct, ws_exc, ws_bad, wp_name, wp_c, wp_m2, wp_m1, wp_test, wp_truthN, wp_lenN, wp_ixN, wp_and, wp_or, wp_notT, wp_andV, wp_orV, wp_notV, wp_if, wp_ifF, wp_args0, wp_args1, wp_tup, wp_frz, wp_callB, wp_callF, wp_cat, wp_repL, wp_chain, wp_cut, wp_part0, wp_part1, wp_call, wp_callFr, wp_callBx, wp_popN, wp_index, wp_yes, wp_seqI, wp_range, wp_revI, wp_zip, ws_seq, ws_nil, ws_pass, ws_ret, ws_retF, ws_retN, ws_set, ws_setF, ws_if, ws_asg, ws_par, ws_par3, ws_parF, ws_aug, ws_append, ws_setIx, wpP_runP, wpF_runF, wpB_runB, wpP_ok, wpF_ok, wpP_exc, wpB_ok, ws_for', ws_forNil, wp_comp, wpC_nil, ev_g0, ev_gs, ev_gn, ev_s0, ev_ss, ev_m0, ev_m1, ev_a0, ev_a1, ev_r0, ev_rs, ev_l0, ev_l1, ev_d0, ev_d1, ev_ob, ev_om, ev_it, ev_if, ev_gl, ev_gl1, ev_dl, ev_dl1, ev_gla, ev_dla, add_ii, addI_ii, sub_ii, add_ll, add_tt, mod_ii, div_ii, pow_ii, mul_ii, mul_li, lt_ii, le_ii, gt_ii, ge_ii, neg_i, eq_ii, ne_ii, eq_bb, ne_bb, is_bb, isnot_bb, is_n, is_in, is_sn, is_bn, is_tn, is_ln, isnot_n, isnot_in, truth_b, truth_i, truth_l, truth_t, len_l, len_t, len_s, ix_l, ix_t, ix_s, seq_l, seq_t, seq_s, tuple_l, tuple_t, list_l, list_t, list_s, on1_p, abs_i, int_b, int_i, max_ii, min_ii, rev_l, rev_t, zip_ll, zip_tt, cat_ll, range_1, range_2, slot_0, slot_s, isi_int_i, isi_int_b, isi_bool_i, isi_bool_b, isi_tup_t, isi_tup_l, isi_lst_l, isi_lst_t, isi_str_s, isi_str_i, isi_str_b, isi_str_n, isi_lt_l, isi_lt_t, isi_lt_i, isi_lt_b, isi_lt_s, isi_lt_n, at_0, at_1, at_2, at_3, at_last, mg_name, mg_tup, mg_nil, mg_cons, own0_own, startR_eq, wipe_0, wipe_1, back_0, back_1, ixN_3_0, ixN_3_1, ixN_3_2, szl, sze, wp_dict, eq_ww, ix_tv0, ix_tv1, tv_mk, mg_tv, tuple_tv, tvs]; simpa [coll, tvs] using hq
      | [a], _, hq => rw [ws_whileEq]; simp -implicitDefEqProofs only [Nat.reduceSub, Nat.reduceAdd, Int.reduceLT, Int.reduceLE, Int.reduceGT, Int.reduceGE, Int.reduceEq, Int.reducePow, Nat.reducePow, Nat.reduceMul, Int.reduceNeg, Int.reduceToNat, Int.reduceAbs, Int.reduceMod, Int.reduceDiv, Int.reduceAdd, Int.reduceSub, Int.reduceMul, Nat.reduceLT, Nat.reduceLeDiff, Nat.reduceEqDiff, decide_eq_true_eq, decide_true, decide_false, and_true, true_and, true_or, or_true, false_or, or_false, and_false, false_and, if_false, ite_true, ite_false, PV.int.injEq, PV.bl.injEq, exists_eq_left', Bool.not_true, Bool.not_false, Bool.false_eq_true, not_true_eq_false, not_false_eq_true, reduceCtorEq, Option.some.injEq, wp_ok, wp_exc, wp_bad, wo_some, wo_none, wo_if, wo_map, wo_bind, wp_of, ws_nx, ws_rt, ws_rf, ws_bk, ws_ct, ws_exc, ws_bad, wp_name, wp_c, wp_m2, wp_m1, wp_test, wp_truthN, wp_lenN, wp_ixN, wp_and, wp_or, wp_notT, wp_andV, wp_orV, wp_notV, wp_if, wp_ifF, wp_args0, wp_args1, wp_tup, wp_frz, wp_callB, wp_callF, wp_cat, wp_repL, wp_chain, wp_cut, wp_part0, wp_part1, wp_call, wp_callFr, wp_callBx, wp_popN, wp_index, wp_yes, wp_seqI, wp_range, wp_revI, wp_zip, ws_seq, ws_nil, ws_pass, ws_ret, ws_retF, ws_retN, ws_set, ws_setF, ws_if, ws_asg, ws_par, ws_par3, ws_parF, ws_aug, ws_append, ws_setIx, wpP_runP, wpF_runF, wpB_runB, wpP_ok, wpF_ok, wpP_exc, wpB_ok, ws_for', ws_forNil, wp_comp, wpC_nil, ev_g0, ev_gs, ev_gn, ev_s0, ev_ss, ev_m0, ev_m1, ev_a0, ev_a1, ev_r0, ev_rs, ev_l0, ev_l1, ev_d0, ev_d1, ev_ob, ev_om, ev_it, ev_if, ev_gl, ev_gl1, ev_dl, ev_dl1, ev_gla, ev_dla, add_ii, addI_ii, sub_ii, add_ll, add_tt, mod_ii, div_ii, pow_ii, mul_ii, mul_li, lt_ii, le_ii, gt_ii, ge_ii, neg_i, eq_ii, ne_ii, eq_bb, ne_bb, is_bb, isnot_bb, is_n, is_in, is_sn, is_bn, is_tn, is_ln, isnot_n, isnot_in, truth_b, truth_i, truth_l, truth_t, len_l, len_t, len_s, ix_l, ix_t, ix_s, seq_l, seq_t, seq_s, tuple_l, tuple_t, list_l, list_t, list_s, on1_p, abs_i, int_b, int_i, max_ii, min_ii, rev_l, rev_t, zip_ll, zip_tt, cat_ll, range_1, range_2, slot_0, slot_s, isi_int_i, isi_int_b, isi_bool_i, isi_bool_b, isi_tup_t, isi_tup_l, isi_lst_l, isi_lst_t, isi_str_s, isi_str_i, isi_str_b, isi_str_n, isi_lt_l, isi_lt_t, isi_lt_i, isi_lt_b, isi_lt_s, isi_lt_n, at_0, at_1, at_2, at_3, at_last, mg_name, mg_tup, mg_nil, mg_cons, own0_own, startR_eq, wipe_0, wipe_1, back_0, back_1, ixN_3_0, ixN_3_1, ixN_3_2, szl, sze, wp_dict, eq_ww, ix_tv0, ix_tv1, tv_mk, mg_tv, tuple_tv, tvs]; simpa [coll, tvs] using hq
      | [a, b], _, hq => rw [ws_whileEq]; simp -implicitDefEqProofs only [Nat.reduceSub, Nat.reduceAdd, Int.reduceLT, Int.reduceLE, Int.reduceGT, Int.reduceGE, Int.reduceEq, Int.reducePow, Nat.reducePow, Nat.reduceMul, Int.reduceNeg, Int.reduceToNat, Int.reduceAbs, Int.reduceMod, Int.reduceDiv, Int.reduceAdd, Int.reduceSub, Int.reduceMul, Nat.reduceLT, Nat.reduceLeDiff, Nat.reduceEqDiff, decide_eq_true_eq, decide_true, decide_false, and_true, true_and, true_or, or_true, false_or, or_false, and_false, false_and, if_false, ite_true, ite_false, PV.int.injEq, PV.bl.injEq, exists_eq_left', Bool.not_true, Bool.not_false, Bool.false_eq_true, not_true_eq_false, not_false_eq_true, reduceCtorEq, Option.some.injEq, wp_ok, wp_exc, wp_bad, wo_some, wo_none, wo_if, wo_map, wo_bind, wp_of, ws_nx, ws_rt, ws_rf, ws_bk, ws_ct, ws_exc, ws_bad, wp_name, wp_c, wp_m2, wp_m1, wp_test, wp_truthN, wp_lenN, wp_ixN, wp_and, wp_or, wp_notT, wp_andV, wp_orV, wp_notV, wp_if, wp_ifF, wp_args0, wp_args1, wp_tup, wp_frz, wp_callB, wp_callF, wp_cat, wp_repL, wp_chain, wp_cut, wp_part0, wp_part1, wp_call, wp_callFr, wp_callBx, wp_popN, wp_index, wp_yes, wp_seqI, wp_range, wp_revI, wp_zip, ws_seq, ws_nil, ws_pass, ws_ret, ws_retF, ws_retN, ws_set, ws_setF, ws_if, ws_asg, ws_par, ws_par3, ws_parF, ws_aug, ws_append, ws_setIx, wpP_runP, wpF_runF, wpB_runB, wpP_ok, wpF_ok, wpP_exc, wpB_ok, ws_for', ws_forNil, wp_comp, wpC_nil, ev_g0, ev_gs, ev_gn, ev_s0, ev_ss, ev_m0, ev_m1, ev_a0, ev_a1, ev_r0, ev_rs, ev_l0, ev_l1, ev_d0, ev_d1, ev_ob, ev_om, ev_it, ev_if, ev_gl, ev_gl1, ev_dl, ev_dl1, ev_gla, ev_dla, add_ii, addI_ii, sub_ii, add_ll, add_tt, mod_ii, div_ii, pow_ii, mul_ii, mul_li, lt_ii, le_ii, gt_ii, ge_ii, neg_i, eq_ii, ne_ii, eq_bb, ne_bb, is_bb, isnot_bb, is_n, is_in, is_sn, is_bn, is_tn, is_ln, isnot_n, isnot_in, truth_b, truth_i, truth_l, truth_t, len_l, len_t, len_s, ix_l, ix_t, ix_s, seq_l, seq_t, seq_s, tuple_l, tuple_t, list_l, list_t, list_s, on1_p, abs_i, int_b, int_i, max_ii, min_ii, rev_l, rev_t, zip_ll, zip_tt, cat_ll, range_1, range_2, slot_0, slot_s, isi_int_i, isi_int_b, isi_bool_i, isi_bool_b, isi_tup_t, isi_tup_l, isi_lst_l, isi_lst_t, isi_str_s, isi_str_i, isi_str_b, isi_str_n, isi_lt_l, isi_lt_t, isi_lt_i, isi_lt_b, isi_lt_s, isi_lt_n, at_0, at_1, at_2, at_3, at_last, mg_name, mg_tup, mg_nil, mg_cons, own0_own, startR_eq, wipe_0, wipe_1, back_0, back_1, ixN_3_0, ixN_3_1, ixN_3_2, szl, sze, wp_dict, eq_ww, ix_tv0, ix_tv1, tv_mk, mg_tv, tuple_tv, tvs]; simpa [coll, tvs] using hq
      | a :: b :: c :: r, hl, hq =>
        rw [ws_whileEq]
        have e : tvs (a :: b :: c :: r).reverse = tvs r.reverse ++ [tv c] ++ [tv b] ++ [tv a] := by simp [tvs]
        have hlen : ((2 : Int) < ((tvs r.reverse ++ [tv c] ++ [tv b] ++ [tv a]).length : Int)) = True := by simp [tvs]; omega
        simp -implicitDefEqProofs only [Nat.reduceSub, Nat.reduceAdd, Int.reduceLT, Int.reduceLE, Int.reduceGT, Int.reduceGE, Int.reduceEq, Int.reducePow, Nat.reducePow, Nat.reduceMul, Int.reduceNeg, Int.reduceToNat, Int.reduceAbs, Int.reduceMod, Int.reduceDiv, Int.reduceAdd, Int.reduceSub, Int.reduceMul, Nat.reduceLT, Nat.reduceLeDiff, Nat.reduceEqDiff, decide_eq_true_eq, decide_true, decide_false, and_true, true_and, true_or, or_true, false_or, or_false, and_false, false_and, if_false, ite_true, ite_false, PV.int.injEq, PV.bl.injEq, exists_eq_left', Bool.not_true, Bool.not_false, Bool.false_eq_true, not_true_eq_false, not_false_eq_true, reduceCtorEq, Option.some.injEq, wp_ok, wp_exc, wp_bad, wo_some, wo_none, wo_if, wo_map, wo_bind, wp_of, ws_nx, ws_rt, ws_rf, ws_bk, ws_ct, ws_exc, ws_bad, wp_name, wp_c, wp_m2, wp_m1, wp_test, wp_truthN, wp_lenN, wp_ixN, wp_and, wp_or, wp_notT, wp_andV, wp_orV, wp_notV, wp_if, wp_ifF, wp_args0, wp_args1, wp_tup, wp_frz, wp_callB, wp_callF, wp_cat, wp_repL, wp_chain, wp_cut, wp_part0, wp_part1, wp_call, wp_callFr, wp_callBx, wp_popN, wp_index, wp_yes, wp_seqI, wp_range, wp_revI, wp_zip, ws_seq, ws_nil, ws_pass, ws_ret, ws_retF, ws_retN, ws_set, ws_setF, ws_if, ws_asg, ws_par, ws_par3, ws_parF, ws_aug, ws_append, ws_setIx, wpP_runP, wpF_runF, wpB_runB, wpP_ok, wpF_ok, wpP_exc, wpB_ok, ws_for', ws_forNil, wp_comp, wpC_nil, ev_g0, ev_gs, ev_gn, ev_s0, ev_ss, ev_m0, ev_m1, ev_a0, ev_a1, ev_r0, ev_rs, ev_l0, ev_l1, ev_d0, ev_d1, ev_ob, ev_om, ev_it, ev_if, ev_gl, ev_gl1, ev_dl, ev_dl1, ev_gla, ev_dla, add_ii, addI_ii, sub_ii, add_ll, add_tt, mod_ii, div_ii, pow_ii, mul_ii, mul_li, lt_ii, le_ii, gt_ii, ge_ii, neg_i, eq_ii, ne_ii, eq_bb, ne_bb, is_bb, isnot_bb, is_n, is_in, is_sn, is_bn, is_tn, is_ln, isnot_n, isnot_in, truth_b, truth_i, truth_l, truth_t, len_l, len_t, len_s, ix_l, ix_t, ix_s, seq_l, seq_t, seq_s, tuple_l, tuple_t, list_l, list_t, list_s, on1_p, abs_i, int_b, int_i, max_ii, min_ii, rev_l, rev_t, zip_ll, zip_tt, cat_ll, range_1, range_2, slot_0, slot_s, isi_int_i, isi_int_b, isi_bool_i, isi_bool_b, isi_tup_t, isi_tup_l, isi_lst_l, isi_lst_t, isi_str_s, isi_str_i, isi_str_b, isi_str_n, isi_lt_l, isi_lt_t, isi_lt_i, isi_lt_b, isi_lt_s, isi_lt_n, at_0, at_1, at_2, at_3, at_last, mg_name, mg_tup, mg_nil, mg_cons, own0_own, startR_eq, wipe_0, wipe_1, back_0, back_1, ixN_3_0, ixN_3_1, ixN_3_2, szl, sze, wp_dict, eq_ww, ix_tv0, ix_tv1, tv_mk, mg_tv, tuple_tv, e, hlen, at_2l, at_3l]
        rw [coll] at hq
        by_cases hc : b.2 ≤ min c.2 a.2
        · rw [if_pos hc] at hq
          have hsz : ((tvs r.reverse).length < sizeLine) = True := by simp only [tvs, List.length_map, List.length_reverse, eq_iff_iff, iff_true]; simp at hl; exact sz _ (by omega)
          simp -implicitDefEqProofs only [Nat.reduceSub, Nat.reduceAdd, Int.reduceLT, Int.reduceLE, Int.reduceGT, Int.reduceGE, Int.reduceEq, Int.reducePow, Nat.reducePow, Nat.reduceMul, Int.reduceNeg, Int.reduceToNat, Int.reduceAbs, Int.reduceMod, Int.reduceDiv, Int.reduceAdd, Int.reduceSub, Int.reduceMul, Nat.reduceLT, Nat.reduceLeDiff, Nat.reduceEqDiff, decide_eq_true_eq, decide_true, decide_false, and_true, true_and, true_or, or_true, false_or, or_false, and_false, false_and, if_false, ite_true, ite_false, PV.int.injEq, PV.bl.injEq, exists_eq_left', Bool.not_true, Bool.not_false, Bool.false_eq_true, not_true_eq_false, not_false_eq_true, reduceCtorEq, Option.some.injEq, wp_ok, wp_exc, wp_bad, wo_some, wo_none, wo_if, wo_map, wo_bind, wp_of, ws_nx, ws_rt, ws_rf, ws_bk, ws_ct, ws_exc, ws_bad, wp_name, wp_c, wp_m2, wp_m1, wp_test, wp_truthN, wp_lenN, wp_ixN, wp_and, wp_or, wp_notT, wp_andV, wp_orV, wp_notV, wp_if, wp_ifF, wp_args0, wp_args1, wp_tup, wp_frz, wp_callB, wp_callF, wp_cat, wp_repL, wp_chain, wp_cut, wp_part0, wp_part1, wp_call, wp_callFr, wp_callBx, wp_popN, wp_index, wp_yes, wp_seqI, wp_range, wp_revI, wp_zip, ws_seq, ws_nil, ws_pass, ws_ret, ws_retF, ws_retN, ws_set, ws_setF, ws_if, ws_asg, ws_par, ws_par3, ws_parF, ws_aug, ws_append, ws_setIx, wpP_runP, wpF_runF, wpB_runB, wpP_ok, wpF_ok, wpP_exc, wpB_ok, ws_for', ws_forNil, wp_comp, wpC_nil, ev_g0, ev_gs, ev_gn, ev_s0, ev_ss, ev_m0, ev_m1, ev_a0, ev_a1, ev_r0, ev_rs, ev_l0, ev_l1, ev_d0, ev_d1, ev_ob, ev_om, ev_it, ev_if, ev_gl, ev_gl1, ev_dl, ev_dl1, ev_gla, ev_dla, add_ii, addI_ii, sub_ii, add_ll, add_tt, mod_ii, div_ii, pow_ii, mul_ii, mul_li, lt_ii, le_ii, gt_ii, ge_ii, neg_i, eq_ii, ne_ii, eq_bb, ne_bb, is_bb, isnot_bb, is_n, is_in, is_sn, is_bn, is_tn, is_ln, isnot_n, isnot_in, truth_b, truth_i, truth_l, truth_t, len_l, len_t, len_s, ix_l, ix_t, ix_s, seq_l, seq_t, seq_s, tuple_l, tuple_t, list_l, list_t, list_s, on1_p, abs_i, int_b, int_i, max_ii, min_ii, rev_l, rev_t, zip_ll, zip_tt, cat_ll, range_1, range_2, slot_0, slot_s, isi_int_i, isi_int_b, isi_bool_i, isi_bool_b, isi_tup_t, isi_tup_l, isi_lst_l, isi_lst_t, isi_str_s, isi_str_i, isi_str_b, isi_str_n, isi_lt_l, isi_lt_t, isi_lt_i, isi_lt_b, isi_lt_s, isi_lt_n, at_0, at_1, at_2, at_3, at_last, mg_name, mg_tup, mg_nil, mg_cons, own0_own, startR_eq, wipe_0, wipe_1, back_0, back_1, ixN_3_0, ixN_3_1, ixN_3_2, szl, sze, wp_dict, eq_ww, ix_tv0, ix_tv1, tv_mk, mg_tv, tuple_tv, hc, hsz, ← tvs_rev]
          exact ih _ _ _ _ _ _ _ Q (by simp at hl ⊢; omega) (by omega) hq
        · rw [if_neg hc] at hq
          simp -implicitDefEqProofs only [Nat.reduceSub, Nat.reduceAdd, Int.reduceLT, Int.reduceLE, Int.reduceGT, Int.reduceGE, Int.reduceEq, Int.reducePow, Nat.reducePow, Nat.reduceMul, Int.reduceNeg, Int.reduceToNat, Int.reduceAbs, Int.reduceMod, Int.reduceDiv, Int.reduceAdd, Int.reduceSub, Int.reduceMul, Nat.reduceLT, Nat.reduceLeDiff, Nat.reduceEqDiff, decide_eq_true_eq, decide_true, decide_false, and_true, true_and, true_or, or_true, false_or, or_false, and_false, false_and, if_false, ite_true, ite_false, PV.int.injEq, PV.bl.injEq, exists_eq_left', Bool.not_true, Bool.not_false, Bool.false_eq_true, not_true_eq_false, not_false_eq_true, reduceCtorEq, Option.some.injEq, wp_ok, wp_exc, wp_bad, wo_some, wo_none, wo_if, wo_map, wo_bind, wp_of, ws_nx, ws_rt, ws_rf, ws_bk, ws_ct, ws_exc, ws_bad, wp_name, wp_c, wp_m2, wp_m1, wp_test, wp_truthN, wp_lenN, wp_ixN, wp_and, wp_or, wp_notT, wp_andV, wp_orV, wp_notV, wp_if, wp_ifF, wp_args0, wp_args1, wp_tup, wp_frz, wp_callB, wp_callF, wp_cat, wp_repL, wp_chain, wp_cut, wp_part0, wp_part1, wp_call, wp_callFr, wp_callBx, wp_popN, wp_index, wp_yes, wp_seqI, wp_range, wp_revI, wp_zip, ws_seq, ws_nil, ws_pass, ws_ret, ws_retF, ws_retN, ws_set, ws_setF, ws_if, ws_asg, ws_par, ws_par3, ws_parF, ws_aug, ws_append, ws_setIx, wpP_runP, wpF_runF, wpB_runB, wpP_ok, wpF_ok, wpP_exc, wpB_ok, ws_for', ws_forNil, wp_comp, wpC_nil, ev_g0, ev_gs, ev_gn, ev_s0, ev_ss, ev_m0, ev_m1, ev_a0, ev_a1, ev_r0, ev_rs, ev_l0, ev_l1, ev_d0, ev_d1, ev_ob, ev_om, ev_it, ev_if, ev_gl, ev_gl1, ev_dl, ev_dl1, ev_gla, ev_dla, add_ii, addI_ii, sub_ii, add_ll, add_tt, mod_ii, div_ii, pow_ii, mul_ii, mul_li, lt_ii, le_ii, gt_ii, ge_ii, neg_i, eq_ii, ne_ii, eq_bb, ne_bb, is_bb, isnot_bb, is_n, is_in, is_sn, is_bn, is_tn, is_ln, isnot_n, isnot_in, truth_b, truth_i, truth_l, truth_t, len_l, len_t, len_s, ix_l, ix_t, ix_s, seq_l, seq_t, seq_s, tuple_l, tuple_t, list_l, list_t, list_s, on1_p, abs_i, int_b, int_i, max_ii, min_ii, rev_l, rev_t, zip_ll, zip_tt, cat_ll, range_1, range_2, slot_0, slot_s, isi_int_i, isi_int_b, isi_bool_i, isi_bool_b, isi_tup_t, isi_tup_l, isi_lst_l, isi_lst_t, isi_str_s, isi_str_i, isi_str_b, isi_str_n, isi_lt_l, isi_lt_t, isi_lt_i, isi_lt_b, isi_lt_s, isi_lt_n, at_0, at_1, at_2, at_3, at_last, mg_name, mg_tup, mg_nil, mg_cons, own0_own, startR_eq, wipe_0, wipe_1, back_0, back_1, ixN_3_0, ixN_3_1, ixN_3_2, szl, sze, wp_dict, eq_ww, ix_tv0, ix_tv1, tv_mk, mg_tv, tuple_tv, hc]
          rw [e] at hq
          exact hq
  have hsz : ∀ l' : List T, l'.length ≤ 1000 → ((tvs l').length < sizeLine) = True := fun l' h => by simp only [tvs, List.length_map, eq_iff_iff, iff_true]; exact sz _ (by omega)
  cases l with
  | nil =>
    simp -implicitDefEqProofs only [Nat.reduceSub, Nat.reduceAdd, Int.reduceLT, Int.reduceLE, Int.reduceGT, Int.reduceGE, Int.reduceEq, Int.reducePow, Nat.reducePow, Nat.reduceMul, Int.reduceNeg, Int.reduceToNat, Int.reduceAbs, Int.reduceMod, Int.reduceDiv, Int.reduceAdd, Int.reduceSub, Int.reduceMul, Nat.reduceLT, Nat.reduceLeDiff, Nat.reduceEqDiff, decide_eq_true_eq, decide_true, decide_false, and_true, true_and, true_or, or_true, false_or, or_false, and_false, false_and, if_false, ite_true, ite_false, PV.int.injEq, PV.bl.injEq, exists_eq_left', Bool.not_true, Bool.not_false, Bool.false_eq_true, not_true_eq_false, not_false_eq_true, reduceCtorEq, Option.some.injEq, wp_ok, wp_exc, wp_bad, wo_some, wo_none, wo_if, wo_map, wo_bind, wp_of, ws_nx, ws_rt, ws_rf, ws_bk, ws_ct, ws_exc, ws_bad, wp_name, wp_c, wp_m2, wp_m1, wp_test, wp_truthN, wp_lenN, wp_ixN, wp_and, wp_or, wp_notT, wp_andV, wp_orV, wp_notV, wp_if, wp_ifF, wp_args0, wp_args1, wp_tup, wp_frz, wp_callB, wp_callF, wp_cat, wp_repL, wp_chain, wp_cut, wp_part0, wp_part1, wp_call, wp_callFr, wp_callBx, wp_popN, wp_index, wp_yes, wp_seqI, wp_range, wp_revI, wp_zip, ws_seq, ws_nil, ws_pass, ws_ret, ws_retF, ws_retN, ws_set, ws_setF, ws_if, ws_asg, ws_par, ws_par3, ws_parF, ws_aug, ws_append, ws_setIx, wpP_runP, wpF_runF, wpB_runB, wpP_ok, wpF_ok, wpP_exc, wpB_ok, ws_for', ws_forNil, wp_comp, wpC_nil, ev_g0, ev_gs, ev_gn, ev_s0, ev_ss, ev_m0, ev_m1, ev_a0, ev_a1, ev_r0, ev_rs, ev_l0, ev_l1, ev_d0, ev_d1, ev_ob, ev_om, ev_it, ev_if, ev_gl, ev_gl1, ev_dl, ev_dl1, ev_gla, ev_dla, add_ii, addI_ii, sub_ii, add_ll, add_tt, mod_ii, div_ii, pow_ii, mul_ii, mul_li, lt_ii, le_ii, gt_ii, ge_ii, neg_i, eq_ii, ne_ii, eq_bb, ne_bb, is_bb, isnot_bb, is_n, is_in, is_sn, is_bn, is_tn, is_ln, isnot_n, isnot_in, truth_b, truth_i, truth_l, truth_t, len_l, len_t, len_s, ix_l, ix_t, ix_s, seq_l, seq_t, seq_s, tuple_l, tuple_t, list_l, list_t, list_s, on1_p, abs_i, int_b, int_i, max_ii, min_ii, rev_l, rev_t, zip_ll, zip_tt, cat_ll, range_1, range_2, slot_0, slot_s, isi_int_i, isi_int_b, isi_bool_i, isi_bool_b, isi_tup_t, isi_tup_l, isi_lst_l, isi_lst_t, isi_str_s, isi_str_i, isi_str_b, isi_str_n, isi_lt_l, isi_lt_t, isi_lt_i, isi_lt_b, isi_lt_s, isi_lt_n, at_0, at_1, at_2, at_3, at_last, mg_name, mg_tup, mg_nil, mg_cons, own0_own, startR_eq, wipe_0, wipe_1, back_0, back_1, ixN_3_0, ixN_3_1, ixN_3_2, szl, sze, wp_dict, eq_ww, ix_tv0, ix_tv1, tv_mk, mg_tv, tuple_tv, f_with_turn, c_with_turn, List.reverse_nil, tvs, List.isEmpty_nil, sz 0 (by decide)]
    exact loop 1 [(w, m)] _ _ _ _ _ _ (fun q => q = .lst (tvs (wtR [] (w, m)).reverse)) (by simp) (by omega) rfl
  | cons a r =>
    have e : tvs (a :: r).reverse = tvs r.reverse ++ [tv a] := tvs_rev a r
    have ne : (tvs r.reverse ++ [tv a]).isEmpty = false := by simp
    have h1 := hsz r.reverse (by simp at hl ⊢; omega)
    have h2 : ((tvs r.reverse ++ [tv a]).length < sizeLine) = True := by rw [← e]; exact hsz _ (by simpa using hl)
    obtain ⟨aw, am⟩ := a
    simp -implicitDefEqProofs only [Nat.reduceSub, Nat.reduceAdd, Int.reduceLT, Int.reduceLE, Int.reduceGT, Int.reduceGE, Int.reduceEq, Int.reducePow, Nat.reducePow, Nat.reduceMul, Int.reduceNeg, Int.reduceToNat, Int.reduceAbs, Int.reduceMod, Int.reduceDiv, Int.reduceAdd, Int.reduceSub, Int.reduceMul, Nat.reduceLT, Nat.reduceLeDiff, Nat.reduceEqDiff, decide_eq_true_eq, decide_true, decide_false, and_true, true_and, true_or, or_true, false_or, or_false, and_false, false_and, if_false, ite_true, ite_false, PV.int.injEq, PV.bl.injEq, exists_eq_left', Bool.not_true, Bool.not_false, Bool.false_eq_true, not_true_eq_false, not_false_eq_true, reduceCtorEq, Option.some.injEq, wp_ok, wp_exc, wp_bad, wo_some, wo_none, wo_if, wo_map, wo_bind, wp_of, ws_nx, ws_rt, ws_rf, ws_bk, ws_ct, ws_exc, ws_bad, wp_name, wp_c, wp_m2, wp_m1, wp_test, wp_truthN, wp_lenN, wp_ixN, wp_and, wp_or, wp_notT, wp_andV, wp_orV, wp_notV, wp_if, wp_ifF, wp_args0, wp_args1, wp_tup, wp_frz, wp_callB, wp_callF, wp_cat, wp_repL, wp_chain, wp_cut, wp_part0, wp_part1, wp_call, wp_callFr, wp_callBx, wp_popN, wp_index, wp_yes, wp_seqI, wp_range, wp_revI, wp_zip, ws_seq, ws_nil, ws_pass, ws_ret, ws_retF, ws_retN, ws_set, ws_setF, ws_if, ws_asg, ws_par, ws_par3, ws_parF, ws_aug, ws_append, ws_setIx, wpP_runP, wpF_runF, wpB_runB, wpP_ok, wpF_ok, wpP_exc, wpB_ok, ws_for', ws_forNil, wp_comp, wpC_nil, ev_g0, ev_gs, ev_gn, ev_s0, ev_ss, ev_m0, ev_m1, ev_a0, ev_a1, ev_r0, ev_rs, ev_l0, ev_l1, ev_d0, ev_d1, ev_ob, ev_om, ev_it, ev_if, ev_gl, ev_gl1, ev_dl, ev_dl1, ev_gla, ev_dla, add_ii, addI_ii, sub_ii, add_ll, add_tt, mod_ii, div_ii, pow_ii, mul_ii, mul_li, lt_ii, le_ii, gt_ii, ge_ii, neg_i, eq_ii, ne_ii, eq_bb, ne_bb, is_bb, isnot_bb, is_n, is_in, is_sn, is_bn, is_tn, is_ln, isnot_n, isnot_in, truth_b, truth_i, truth_l, truth_t, len_l, len_t, len_s, ix_l, ix_t, ix_s, seq_l, seq_t, seq_s, tuple_l, tuple_t, list_l, list_t, list_s, on1_p, abs_i, int_b, int_i, max_ii, min_ii, rev_l, rev_t, zip_ll, zip_tt, cat_ll, range_1, range_2, slot_0, slot_s, isi_int_i, isi_int_b, isi_bool_i, isi_bool_b, isi_tup_t, isi_tup_l, isi_lst_l, isi_lst_t, isi_str_s, isi_str_i, isi_str_b, isi_str_n, isi_lt_l, isi_lt_t, isi_lt_i, isi_lt_b, isi_lt_s, isi_lt_n, at_0, at_1, at_2, at_3, at_last, mg_name, mg_tup, mg_nil, mg_cons, own0_own, startR_eq, wipe_0, wipe_1, back_0, back_1, ixN_3_0, ixN_3_1, ixN_3_2, szl, sze, wp_dict, eq_ww, ix_tv0, ix_tv1, tv_mk, mg_tv, tuple_tv, f_with_turn, c_with_turn, e, ne]
    by_cases hw : aw = w
    · subst hw
      simp -implicitDefEqProofs only [Nat.reduceSub, Nat.reduceAdd, Int.reduceLT, Int.reduceLE, Int.reduceGT, Int.reduceGE, Int.reduceEq, Int.reducePow, Nat.reducePow, Nat.reduceMul, Int.reduceNeg, Int.reduceToNat, Int.reduceAbs, Int.reduceMod, Int.reduceDiv, Int.reduceAdd, Int.reduceSub, Int.reduceMul, Nat.reduceLT, Nat.reduceLeDiff, Nat.reduceEqDiff, decide_eq_true_eq, decide_true, decide_false, and_true, true_and, true_or, or_true, false_or, or_false, and_false, false_and, if_false, ite_true, ite_false, PV.int.injEq, PV.bl.injEq, exists_eq_left', Bool.not_true, Bool.not_false, Bool.false_eq_true, not_true_eq_false, not_false_eq_true, reduceCtorEq, Option.some.injEq, wp_ok, wp_exc, wp_bad, wo_some, wo_none, wo_if, wo_map, wo_bind, wp_of, ws_nx, ws_rt, ws_rf, ws_bk, ws_ct, ws_exc, ws_bad, wp_name, wp_c, wp_m2, wp_m1, wp_test, wp_truthN, wp_lenN, wp_ixN, wp_and, wp_or, wp_notT, wp_andV, wp_orV, wp_notV, wp_if, wp_ifF, wp_args0, wp_args1, wp_tup, wp_frz, wp_callB, wp_callF, wp_cat, wp_repL, wp_chain, wp_cut, wp_part0, wp_part1, wp_call, wp_callFr, wp_callBx, wp_popN, wp_index, wp_yes, wp_seqI, wp_range, wp_revI, wp_zip, ws_seq, ws_nil, ws_pass, ws_ret, ws_retF, ws_retN, ws_set, ws_setF, ws_if, ws_asg, ws_par, ws_par3, ws_parF, ws_aug, ws_append, ws_setIx, wpP_runP, wpF_runF, wpB_runB, wpP_ok, wpF_ok, wpP_exc, wpB_ok, ws_for', ws_forNil, wp_comp, wpC_nil, ev_g0, ev_gs, ev_gn, ev_s0, ev_ss, ev_m0, ev_m1, ev_a0, ev_a1, ev_r0, ev_rs, ev_l0, ev_l1, ev_d0, ev_d1, ev_ob, ev_om, ev_it, ev_if, ev_gl, ev_gl1, ev_dl, ev_dl1, ev_gla, ev_dla, add_ii, addI_ii, sub_ii, add_ll, add_tt, mod_ii, div_ii, pow_ii, mul_ii, mul_li, lt_ii, le_ii, gt_ii, ge_ii, neg_i, eq_ii, ne_ii, eq_bb, ne_bb, is_bb, isnot_bb, is_n, is_in, is_sn, is_bn, is_tn, is_ln, isnot_n, isnot_in, truth_b, truth_i, truth_l, truth_t, len_l, len_t, len_s, ix_l, ix_t, ix_s, seq_l, seq_t, seq_s, tuple_l, tuple_t, list_l, list_t, list_s, on1_p, abs_i, int_b, int_i, max_ii, min_ii, rev_l, rev_t, zip_ll, zip_tt, cat_ll, range_1, range_2, slot_0, slot_s, isi_int_i, isi_int_b, isi_bool_i, isi_bool_b, isi_tup_t, isi_tup_l, isi_lst_l, isi_lst_t, isi_str_s, isi_str_i, isi_str_b, isi_str_n, isi_lt_l, isi_lt_t, isi_lt_i, isi_lt_b, isi_lt_s, isi_lt_n, at_0, at_1, at_2, at_3, at_last, mg_name, mg_tup, mg_nil, mg_cons, own0_own, startR_eq, wipe_0, wipe_1, back_0, back_1, ixN_3_0, ixN_3_1, ixN_3_2, szl, sze, wp_dict, eq_ww, ix_tv0, ix_tv1, tv_mk, mg_tv, tuple_tv, beq_self_eq_true, h1, ← tvs_rev]
      refine loop ((aw, am) :: r).length.succ _ _ _ _ _ _ _ (fun q => q = .lst (tvs (wtR ((aw, am) :: r) (aw, m)).reverse)) (by simp) (by simp at hl ⊢; omega) ?_
      simp [wtR]
    · have hb : (aw == w) = false := by simpa using hw
      simp -implicitDefEqProofs only [Nat.reduceSub, Nat.reduceAdd, Int.reduceLT, Int.reduceLE, Int.reduceGT, Int.reduceGE, Int.reduceEq, Int.reducePow, Nat.reducePow, Nat.reduceMul, Int.reduceNeg, Int.reduceToNat, Int.reduceAbs, Int.reduceMod, Int.reduceDiv, Int.reduceAdd, Int.reduceSub, Int.reduceMul, Nat.reduceLT, Nat.reduceLeDiff, Nat.reduceEqDiff, decide_eq_true_eq, decide_true, decide_false, and_true, true_and, true_or, or_true, false_or, or_false, and_false, false_and, if_false, ite_true, ite_false, PV.int.injEq, PV.bl.injEq, exists_eq_left', Bool.not_true, Bool.not_false, Bool.false_eq_true, not_true_eq_false, not_false_eq_true, reduceCtorEq, Option.some.injEq, wp_ok, wp_exc, wp_bad, wo_some, wo_none, wo_if, wo_map, wo_bind, wp_of, ws_nx, ws_rt, ws_rf, ws_bk, ws_ct, ws_exc, ws_bad, wp_name, wp_c, wp_m2, wp_m1, wp_test, wp_truthN, wp_lenN, wp_ixN, wp_and, wp_or, wp_notT, wp_andV, wp_orV, wp_notV, wp_if, wp_ifF, wp_args0, wp_args1, wp_tup, wp_frz, wp_callB, wp_callF, wp_cat, wp_repL, wp_chain, wp_cut, wp_part0, wp_part1, wp_call, wp_callFr, wp_callBx, wp_popN, wp_index, wp_yes, wp_seqI, wp_range, wp_revI, wp_zip, ws_seq, ws_nil, ws_pass, ws_ret, ws_retF, ws_retN, ws_set, ws_setF, ws_if, ws_asg, ws_par, ws_par3, ws_parF, ws_aug, ws_append, ws_setIx, wpP_runP, wpF_runF, wpB_runB, wpP_ok, wpF_ok, wpP_exc, wpB_ok, ws_for', ws_forNil, wp_comp, wpC_nil, ev_g0, ev_gs, ev_gn, ev_s0, ev_ss, ev_m0, ev_m1, ev_a0, ev_a1, ev_r0, ev_rs, ev_l0, ev_l1, ev_d0, ev_d1, ev_ob, ev_om, ev_it, ev_if, ev_gl, ev_gl1, ev_dl, ev_dl1, ev_gla, ev_dla, add_ii, addI_ii, sub_ii, add_ll, add_tt, mod_ii, div_ii, pow_ii, mul_ii, mul_li, lt_ii, le_ii, gt_ii, ge_ii, neg_i, eq_ii, ne_ii, eq_bb, ne_bb, is_bb, isnot_bb, is_n, is_in, is_sn, is_bn, is_tn, is_ln, isnot_n, isnot_in, truth_b, truth_i, truth_l, truth_t, len_l, len_t, len_s, ix_l, ix_t, ix_s, seq_l, seq_t, seq_s, tuple_l, tuple_t, list_l, list_t, list_s, on1_p, abs_i, int_b, int_i, max_ii, min_ii, rev_l, rev_t, zip_ll, zip_tt, cat_ll, range_1, range_2, slot_0, slot_s, isi_int_i, isi_int_b, isi_bool_i, isi_bool_b, isi_tup_t, isi_tup_l, isi_lst_l, isi_lst_t, isi_str_s, isi_str_i, isi_str_b, isi_str_n, isi_lt_l, isi_lt_t, isi_lt_i, isi_lt_b, isi_lt_s, isi_lt_n, at_0, at_1, at_2, at_3, at_last, mg_name, mg_tup, mg_nil, mg_cons, own0_own, startR_eq, wipe_0, wipe_1, back_0, back_1, ixN_3_0, ixN_3_1, ixN_3_2, szl, sze, wp_dict, eq_ww, ix_tv0, ix_tv1, tv_mk, mg_tv, tuple_tv, hb, h2]
      rw [← tvs_rev, ← tvs_rev]
      refine loop ((aw, am) :: r).length.succ ((w, m) :: (aw, am) :: r) _ _ _ _ _ _ (fun q => q = .lst (tvs (wtR ((aw, am) :: r) (w, m)).reverse)) (by simp) (by simp at hl ⊢; omega) ?_
      simp [wtR, hw]
theorem fold_len (ts l : List T) : (ts.foldl wtR l).length ≤ l.length + ts.length := by
  induction ts generalizing l with
  | nil => simp
  | cons t ts ih =>
    have h1 := ih (wtR l t)
    have h2 := wt_len l t
    simp only [List.foldl_cons, List.length_cons]
    omega
theorem tvs_get (ts : List T) (i : Nat) (p : PV) (h : (tvs ts)[i]? = some p) : ∃ t, ts[i]? = some t ∧ p = tv t := by
  unfold tvs at h
  rw [List.getElem?_map] at h
  cases e : ts[i]? with
  | none => rw [e] at h; cases h
  | some t => rw [e] at h; cases h; exact ⟨t, rfl, rfl⟩
theorem take_snoc {α : Type} {l : List α} {i : Nat} {a : α} (h : l[i]? = some a) : l.take (i + 1) = l.take i ++ [a] := by
  rw [List.take_add_one, h]; rfl
theorem fg_ok (ts : List T) (hl : ts.length ≤ 900) : f_forgotten [.lst (tvs ts)] = .ok (.lst (tvs (fg ts))) := by
  rw [wpP_eq]
  simp -implicitDefEqProofs only [Nat.reduceSub, Nat.reduceAdd, Int.reduceLT, Int.reduceLE, Int.reduceGT, Int.reduceGE, Int.reduceEq, Int.reducePow, Nat.reducePow, Nat.reduceMul, Int.reduceNeg, Int.reduceToNat, Int.reduceAbs, Int.reduceMod, Int.reduceDiv, Int.reduceAdd, Int.reduceSub, Int.reduceMul, Nat.reduceLT, Nat.reduceLeDiff, Nat.reduceEqDiff, decide_eq_true_eq, decide_true, decide_false, and_true, true_and, true_or, or_true, false_or, or_false, and_false, false_and, if_false, ite_true, ite_false, PV.int.injEq, PV.bl.injEq, exists_eq_left', Bool.not_true, Bool.not_false, Bool.false_eq_true, not_true_eq_false, not_false_eq_true, reduceCtorEq, Option.some.injEq, wp_ok, wp_exc, wp_bad, wo_some, wo_none, wo_if, wo_map, wo_bind, wp_of, ws_nx, ws_rt, ws_rf, ws_bk, ws_ct, ws_exc, ws_bad, wp_name, wp_c, wp_m2, wp_m1, wp_test, wp_truthN, wp_lenN, wp_ixN, wp_and, wp_or, wp_notT, wp_andV, wp_orV, wp_notV, wp_if, wp_ifF, wp_args0, wp_args1, wp_tup, wp_frz, wp_callB, wp_callF, wp_cat, wp_repL, wp_chain, wp_cut, wp_part0, wp_part1, wp_call, wp_callFr, wp_callBx, wp_popN, wp_index, wp_yes, wp_seqI, wp_range, wp_revI, wp_zip, ws_seq, ws_nil, ws_pass, ws_ret, ws_retF, ws_retN, ws_set, ws_setF, ws_if, ws_asg, ws_par, ws_par3, ws_parF, ws_aug, ws_append, ws_setIx, wpP_runP, wpF_runF, wpB_runB, wpP_ok, wpF_ok, wpP_exc, wpB_ok, ws_for', ws_forNil, wp_comp, wpC_nil, ev_g0, ev_gs, ev_gn, ev_s0, ev_ss, ev_m0, ev_m1, ev_a0, ev_a1, ev_r0, ev_rs, ev_l0, ev_l1, ev_d0, ev_d1, ev_ob, ev_om, ev_it, ev_if, ev_gl, ev_gl1, ev_dl, ev_dl1, ev_gla, ev_dla, add_ii, addI_ii, sub_ii, add_ll, add_tt, mod_ii, div_ii, pow_ii, mul_ii, mul_li, lt_ii, le_ii, gt_ii, ge_ii, neg_i, eq_ii, ne_ii, eq_bb, ne_bb, is_bb, isnot_bb, is_n, is_in, is_sn, is_bn, is_tn, is_ln, isnot_n, isnot_in, truth_b, truth_i, truth_l, truth_t, len_l, len_t, len_s, ix_l, ix_t, ix_s, seq_l, seq_t, seq_s, tuple_l, tuple_t, list_l, list_t, list_s, on1_p, abs_i, int_b, int_i, max_ii, min_ii, rev_l, rev_t, zip_ll, zip_tt, cat_ll, range_1, range_2, slot_0, slot_s, isi_int_i, isi_int_b, isi_bool_i, isi_bool_b, isi_tup_t, isi_tup_l, isi_lst_l, isi_lst_t, isi_str_s, isi_str_i, isi_str_b, isi_str_n, isi_lt_l, isi_lt_t, isi_lt_i, isi_lt_b, isi_lt_s, isi_lt_n, at_0, at_1, at_2, at_3, at_last, mg_name, mg_tup, mg_nil, mg_cons, own0_own, startR_eq, wipe_0, wipe_1, back_0, back_1, ixN_3_0, ixN_3_1, ixN_3_2, szl, sze, wp_dict, eq_ww, ix_tv0, ix_tv1, tv_mk, mg_tv, tuple_tv, f_forgotten, c_forgotten]
  refine ws_forInv (fun i ρ => ∃ j, ρ = [.val (.lst (tvs ts)), .val (.lst (tvs (fg (ts.take i)))), j]) ⟨_, rfl⟩ ?_ ?_
  · rintro i p ρ e ⟨j, rfl⟩
    obtain ⟨t, et, rfl⟩ := tvs_get ts i p e
    have hw : f_with_turn [.lst (tvs (fg (ts.take i))), tv t] = .ok (.lst (tvs (fg (ts.take (i + 1))))) := by
      unfold fg
      rw [with_ok _ _ (by have := fold_len (ts.take i) []; simp at this; unfold fgR; omega), take_snoc et]
      simp [fgR]
    simp -implicitDefEqProofs only [Nat.reduceSub, Nat.reduceAdd, Int.reduceLT, Int.reduceLE, Int.reduceGT, Int.reduceGE, Int.reduceEq, Int.reducePow, Nat.reducePow, Nat.reduceMul, Int.reduceNeg, Int.reduceToNat, Int.reduceAbs, Int.reduceMod, Int.reduceDiv, Int.reduceAdd, Int.reduceSub, Int.reduceMul, Nat.reduceLT, Nat.reduceLeDiff, Nat.reduceEqDiff, decide_eq_true_eq, decide_true, decide_false, and_true, true_and, true_or, or_true, false_or, or_false, and_false, false_and, if_false, ite_true, ite_false, PV.int.injEq, PV.bl.injEq, exists_eq_left', Bool.not_true, Bool.not_false, Bool.false_eq_true, not_true_eq_false, not_false_eq_true, reduceCtorEq, Option.some.injEq, wp_ok, wp_exc, wp_bad, wo_some, wo_none, wo_if, wo_map, wo_bind, wp_of, ws_nx, ws_rt, ws_rf, ws_bk, ws_ct, ws_exc, ws_bad, wp_name, wp_c, wp_m2, wp_m1, wp_test, wp_truthN, wp_lenN, wp_ixN, wp_and, wp_or, wp_notT, wp_andV, wp_orV, wp_notV, wp_if, wp_ifF, wp_args0, wp_args1, wp_tup, wp_frz, wp_callB, wp_callF, wp_cat, wp_repL, wp_chain, wp_cut, wp_part0, wp_part1, wp_call, wp_callFr, wp_callBx, wp_popN, wp_index, wp_yes, wp_seqI, wp_range, wp_revI, wp_zip, ws_seq, ws_nil, ws_pass, ws_ret, ws_retF, ws_retN, ws_set, ws_setF, ws_if, ws_asg, ws_par, ws_par3, ws_parF, ws_aug, ws_append, ws_setIx, wpP_runP, wpF_runF, wpB_runB, wpP_ok, wpF_ok, wpP_exc, wpB_ok, ws_for', ws_forNil, wp_comp, wpC_nil, ev_g0, ev_gs, ev_gn, ev_s0, ev_ss, ev_m0, ev_m1, ev_a0, ev_a1, ev_r0, ev_rs, ev_l0, ev_l1, ev_d0, ev_d1, ev_ob, ev_om, ev_it, ev_if, ev_gl, ev_gl1, ev_dl, ev_dl1, ev_gla, ev_dla, add_ii, addI_ii, sub_ii, add_ll, add_tt, mod_ii, div_ii, pow_ii, mul_ii, mul_li, lt_ii, le_ii, gt_ii, ge_ii, neg_i, eq_ii, ne_ii, eq_bb, ne_bb, is_bb, isnot_bb, is_n, is_in, is_sn, is_bn, is_tn, is_ln, isnot_n, isnot_in, truth_b, truth_i, truth_l, truth_t, len_l, len_t, len_s, ix_l, ix_t, ix_s, seq_l, seq_t, seq_s, tuple_l, tuple_t, list_l, list_t, list_s, on1_p, abs_i, int_b, int_i, max_ii, min_ii, rev_l, rev_t, zip_ll, zip_tt, cat_ll, range_1, range_2, slot_0, slot_s, isi_int_i, isi_int_b, isi_bool_i, isi_bool_b, isi_tup_t, isi_tup_l, isi_lst_l, isi_lst_t, isi_str_s, isi_str_i, isi_str_b, isi_str_n, isi_lt_l, isi_lt_t, isi_lt_i, isi_lt_b, isi_lt_s, isi_lt_n, at_0, at_1, at_2, at_3, at_last, mg_name, mg_tup, mg_nil, mg_cons, own0_own, startR_eq, wipe_0, wipe_1, back_0, back_1, ixN_3_0, ixN_3_1, ixN_3_2, szl, sze, wp_dict, eq_ww, ix_tv0, ix_tv1, tv_mk, mg_tv, tuple_tv, hw]
    exact ⟨_, rfl⟩
  · rintro ρ ⟨j, rfl⟩
    simp -implicitDefEqProofs only [Nat.reduceSub, Nat.reduceAdd, Int.reduceLT, Int.reduceLE, Int.reduceGT, Int.reduceGE, Int.reduceEq, Int.reducePow, Nat.reducePow, Nat.reduceMul, Int.reduceNeg, Int.reduceToNat, Int.reduceAbs, Int.reduceMod, Int.reduceDiv, Int.reduceAdd, Int.reduceSub, Int.reduceMul, Nat.reduceLT, Nat.reduceLeDiff, Nat.reduceEqDiff, decide_eq_true_eq, decide_true, decide_false, and_true, true_and, true_or, or_true, false_or, or_false, and_false, false_and, if_false, ite_true, ite_false, PV.int.injEq, PV.bl.injEq, exists_eq_left', Bool.not_true, Bool.not_false, Bool.false_eq_true, not_true_eq_false, not_false_eq_true, reduceCtorEq, Option.some.injEq, wp_ok, wp_exc, wp_bad, wo_some, wo_none, wo_if, wo_map, wo_bind, wp_of, ws_nx, ws_rt, ws_rf, ws_bk, ws_ct, ws_exc, ws_bad, wp_name, wp_c, wp_m2, wp_m1, wp_test, wp_truthN, wp_lenN, wp_ixN, wp_and, wp_or, wp_notT, wp_andV, wp_orV, wp_notV, wp_if, wp_ifF, wp_args0, wp_args1, wp_tup, wp_frz, wp_callB, wp_callF, wp_cat, wp_repL, wp_chain, wp_cut, wp_part0, wp_part1, wp_call, wp_callFr, wp_callBx, wp_popN, wp_index, wp_yes, wp_seqI, wp_range, wp_revI, wp_zip, ws_seq, ws_nil, ws_pass, ws_ret, ws_retF, ws_retN, ws_set, ws_setF, ws_if, ws_asg, ws_par, ws_par3, ws_parF, ws_aug, ws_append, ws_setIx, wpP_runP, wpF_runF, wpB_runB, wpP_ok, wpF_ok, wpP_exc, wpB_ok, ws_for', ws_forNil, wp_comp, wpC_nil, ev_g0, ev_gs, ev_gn, ev_s0, ev_ss, ev_m0, ev_m1, ev_a0, ev_a1, ev_r0, ev_rs, ev_l0, ev_l1, ev_d0, ev_d1, ev_ob, ev_om, ev_it, ev_if, ev_gl, ev_gl1, ev_dl, ev_dl1, ev_gla, ev_dla, add_ii, addI_ii, sub_ii, add_ll, add_tt, mod_ii, div_ii, pow_ii, mul_ii, mul_li, lt_ii, le_ii, gt_ii, ge_ii, neg_i, eq_ii, ne_ii, eq_bb, ne_bb, is_bb, isnot_bb, is_n, is_in, is_sn, is_bn, is_tn, is_ln, isnot_n, isnot_in, truth_b, truth_i, truth_l, truth_t, len_l, len_t, len_s, ix_l, ix_t, ix_s, seq_l, seq_t, seq_s, tuple_l, tuple_t, list_l, list_t, list_s, on1_p, abs_i, int_b, int_i, max_ii, min_ii, rev_l, rev_t, zip_ll, zip_tt, cat_ll, range_1, range_2, slot_0, slot_s, isi_int_i, isi_int_b, isi_bool_i, isi_bool_b, isi_tup_t, isi_tup_l, isi_lst_l, isi_lst_t, isi_str_s, isi_str_i, isi_str_b, isi_str_n, isi_lt_l, isi_lt_t, isi_lt_i, isi_lt_b, isi_lt_s, isi_lt_n, at_0, at_1, at_2, at_3, at_last, mg_name, mg_tup, mg_nil, mg_cons, own0_own, startR_eq, wipe_0, wipe_1, back_0, back_1, ixN_3_0, ixN_3_1, ixN_3_2, szl, sze, wp_dict, eq_ww, ix_tv0, ix_tv1, tv_mk, mg_tv, tuple_tv]
    simp [tvs]
/-! all so many times as long -/
def sc (k : Int) (t : T) : T := (t.1, t.2 * k)
theorem coll_sc (k : Int) (hk : 0 < k) (w : Bool) : ∀ (n : Nat) (l : List T), coll w n (l.map (sc k)) = (coll w n l).map (sc k)
  | 0, l => by simp [coll]
  | n + 1, [] => by simp [coll]
  | n + 1, [a] => by simp [coll]
  | n + 1, [a, b] => by simp [coll]
  | n + 1, a :: b :: c :: r => by
    have ih := coll_sc k hk w n ((w, c.2 - b.2 + a.2) :: r)
    have e : (b.2 * k ≤ min (c.2 * k) (a.2 * k)) ↔ b.2 ≤ min c.2 a.2 := by
      rw [Int.le_min, Int.le_min, Int.mul_le_mul_right hk, Int.mul_le_mul_right hk]
    simp only [List.map_cons, coll, sc] at ih ⊢
    by_cases h : b.2 ≤ min c.2 a.2
    · rw [if_pos (e.mpr h), if_pos h, ← ih, ← Int.sub_mul, ← Int.add_mul]
    · rw [if_neg (fun z => h (e.mp z)), if_neg h]
      rfl
theorem wt_sc (k : Int) (hk : 0 < k) (l : List T) (t : T) : wtR (l.map (sc k)) (sc k t) = (wtR l t).map (sc k) := by
  cases l with
  | nil => rfl
  | cons a r =>
    have h1 := coll_sc k hk t.1 ((a :: r).length + 1) ((t.1, t.2 + a.2) :: r)
    have h2 := coll_sc k hk t.1 ((a :: r).length + 1) (t :: a :: r)
    simp only [wtR, List.map_cons, sc, List.length_cons, List.length_map] at h1 h2 ⊢
    split
    · rw [← h1, ← Int.add_mul]
    · rw [← h2]
theorem fold_sc (k : Int) (hk : 0 < k) (ts l : List T) : (ts.map (sc k)).foldl wtR (l.map (sc k)) = (ts.foldl wtR l).map (sc k) := by
  induction ts generalizing l with
  | nil => rfl
  | cons t ts ih => simp only [List.map_cons, List.foldl_cons]; rw [wt_sc k hk, ih]
theorem fg_sc (k : Int) (hk : 0 < k) (ts : List T) : fg (ts.map (sc k)) = (fg ts).map (sc k) := by
  unfold fg fgR
  have h := fold_sc k hk ts []
  rw [List.map_reverse, ← h]; rfl
/-! joined -/
def jnR (l : List T) (t : T) : List T := match l with
  | [] => [t]
  | a :: r => if a.1 = t.1 then (t.1, t.2 + a.2) :: r else t :: a :: r
def jn (l : List T) : List T := (l.foldl jnR []).reverse
theorem jn_len (ts l : List T) : (ts.foldl jnR l).length ≤ l.length + ts.length := by
  induction ts generalizing l with
  | nil => simp
  | cons t ts ih =>
    have h1 := ih (jnR l t)
    have h2 : (jnR l t).length ≤ l.length + 1 := by
      unfold jnR
      split
      · simp
      · split <;> simp
    simp only [List.foldl_cons, List.length_cons]
    omega
theorem tvs_length (l : List T) : (tvs l).length = l.length := by simp [tvs]
theorem jn_ok (ts : List T) (hl : ts.length ≤ 900) : f_joined [.lst (tvs ts)] = .ok (.lst (tvs (jn ts))) := by
  rw [wpP_eq]
  simp -implicitDefEqProofs only [Nat.reduceSub, Nat.reduceAdd, Int.reduceLT, Int.reduceLE, Int.reduceGT, Int.reduceGE, Int.reduceEq, Int.reducePow, Nat.reducePow, Nat.reduceMul, Int.reduceNeg, Int.reduceToNat, Int.reduceAbs, Int.reduceMod, Int.reduceDiv, Int.reduceAdd, Int.reduceSub, Int.reduceMul, Nat.reduceLT, Nat.reduceLeDiff, Nat.reduceEqDiff, decide_eq_true_eq, decide_true, decide_false, and_true, true_and, true_or, or_true, false_or, or_false, and_false, false_and, if_false, ite_true, ite_false, PV.int.injEq, PV.bl.injEq, exists_eq_left', Bool.not_true, Bool.not_false, Bool.false_eq_true, not_true_eq_false, not_false_eq_true, reduceCtorEq, Option.some.injEq, wp_ok, wp_exc, wp_bad, wo_some, wo_none, wo_if, wo_map, wo_bind, wp_of, ws_nx, ws_rt, ws_rf, ws_bk, ws_ct, ws_exc, ws_bad, wp_name, wp_c, wp_m2, wp_m1, wp_test, wp_truthN, wp_lenN, wp_ixN, wp_and, wp_or, wp_notT, wp_andV, wp_orV, wp_notV, wp_if, wp_ifF, wp_args0, wp_args1, wp_tup, wp_frz, wp_callB, wp_callF, wp_cat, wp_repL, wp_chain, wp_cut, wp_part0, wp_part1, wp_call, wp_callFr, wp_callBx, wp_popN, wp_index, wp_yes, wp_seqI, wp_range, wp_revI, wp_zip, ws_seq, ws_nil, ws_pass, ws_ret, ws_retF, ws_retN, ws_set, ws_setF, ws_if, ws_asg, ws_par, ws_par3, ws_parF, ws_aug, ws_append, ws_setIx, wpP_runP, wpF_runF, wpB_runB, wpP_ok, wpF_ok, wpP_exc, wpB_ok, ws_for', ws_forNil, wp_comp, wpC_nil, ev_g0, ev_gs, ev_gn, ev_s0, ev_ss, ev_m0, ev_m1, ev_a0, ev_a1, ev_r0, ev_rs, ev_l0, ev_l1, ev_d0, ev_d1, ev_ob, ev_om, ev_it, ev_if, ev_gl, ev_gl1, ev_dl, ev_dl1, ev_gla, ev_dla, add_ii, addI_ii, sub_ii, add_ll, add_tt, mod_ii, div_ii, pow_ii, mul_ii, mul_li, lt_ii, le_ii, gt_ii, ge_ii, neg_i, eq_ii, ne_ii, eq_bb, ne_bb, is_bb, isnot_bb, is_n, is_in, is_sn, is_bn, is_tn, is_ln, isnot_n, isnot_in, truth_b, truth_i, truth_l, truth_t, len_l, len_t, len_s, ix_l, ix_t, ix_s, seq_l, seq_t, seq_s, tuple_l, tuple_t, list_l, list_t, list_s, on1_p, abs_i, int_b, int_i, max_ii, min_ii, rev_l, rev_t, zip_ll, zip_tt, cat_ll, range_1, range_2, slot_0, slot_s, isi_int_i, isi_int_b, isi_bool_i, isi_bool_b, isi_tup_t, isi_tup_l, isi_lst_l, isi_lst_t, isi_str_s, isi_str_i, isi_str_b, isi_str_n, isi_lt_l, isi_lt_t, isi_lt_i, isi_lt_b, isi_lt_s, isi_lt_n, at_0, at_1, at_2, at_3, at_last, mg_name, mg_tup, mg_nil, mg_cons, own0_own, startR_eq, wipe_0, wipe_1, back_0, back_1, ixN_3_0, ixN_3_1, ixN_3_2, szl, sze, wp_dict, eq_ww, ix_tv0, ix_tv1, tv_mk, mg_tv, tuple_tv, f_joined, c_joined]
  refine ws_forInv (fun i ρ => ∃ j j2, ρ = [.val (.lst (tvs ts)), .own (tvs ((ts.take i).foldl jnR []).reverse), j, j2]) ⟨_, _, rfl⟩ ?_ ?_
  · rintro i p ρ e ⟨j, j2, rfl⟩
    obtain ⟨t, et, rfl⟩ := tvs_get ts i p e
    have hlen : ((ts.take i).foldl jnR []).length ≤ 900 := by have := jn_len (ts.take i) []; simp at this; omega
    rw [take_snoc et, List.foldl_append]
    generalize (ts.take i).foldl jnR [] = l at hlen ⊢
    cases l with
    | nil =>
      simp -implicitDefEqProofs only [Nat.reduceSub, Nat.reduceAdd, Int.reduceLT, Int.reduceLE, Int.reduceGT, Int.reduceGE, Int.reduceEq, Int.reducePow, Nat.reducePow, Nat.reduceMul, Int.reduceNeg, Int.reduceToNat, Int.reduceAbs, Int.reduceMod, Int.reduceDiv, Int.reduceAdd, Int.reduceSub, Int.reduceMul, Nat.reduceLT, Nat.reduceLeDiff, Nat.reduceEqDiff, decide_eq_true_eq, decide_true, decide_false, and_true, true_and, true_or, or_true, false_or, or_false, and_false, false_and, if_false, ite_true, ite_false, PV.int.injEq, PV.bl.injEq, exists_eq_left', Bool.not_true, Bool.not_false, Bool.false_eq_true, not_true_eq_false, not_false_eq_true, reduceCtorEq, Option.some.injEq, wp_ok, wp_exc, wp_bad, wo_some, wo_none, wo_if, wo_map, wo_bind, wp_of, ws_nx, ws_rt, ws_rf, ws_bk, ws_ct, ws_exc, ws_bad, wp_name, wp_c, wp_m2, wp_m1, wp_test, wp_truthN, wp_lenN, wp_ixN, wp_and, wp_or, wp_notT, wp_andV, wp_orV, wp_notV, wp_if, wp_ifF, wp_args0, wp_args1, wp_tup, wp_frz, wp_callB, wp_callF, wp_cat, wp_repL, wp_chain, wp_cut, wp_part0, wp_part1, wp_call, wp_callFr, wp_callBx, wp_popN, wp_index, wp_yes, wp_seqI, wp_range, wp_revI, wp_zip, ws_seq, ws_nil, ws_pass, ws_ret, ws_retF, ws_retN, ws_set, ws_setF, ws_if, ws_asg, ws_par, ws_par3, ws_parF, ws_aug, ws_append, ws_setIx, wpP_runP, wpF_runF, wpB_runB, wpP_ok, wpF_ok, wpP_exc, wpB_ok, ws_for', ws_forNil, wp_comp, wpC_nil, ev_g0, ev_gs, ev_gn, ev_s0, ev_ss, ev_m0, ev_m1, ev_a0, ev_a1, ev_r0, ev_rs, ev_l0, ev_l1, ev_d0, ev_d1, ev_ob, ev_om, ev_it, ev_if, ev_gl, ev_gl1, ev_dl, ev_dl1, ev_gla, ev_dla, add_ii, addI_ii, sub_ii, add_ll, add_tt, mod_ii, div_ii, pow_ii, mul_ii, mul_li, lt_ii, le_ii, gt_ii, ge_ii, neg_i, eq_ii, ne_ii, eq_bb, ne_bb, is_bb, isnot_bb, is_n, is_in, is_sn, is_bn, is_tn, is_ln, isnot_n, isnot_in, truth_b, truth_i, truth_l, truth_t, len_l, len_t, len_s, ix_l, ix_t, ix_s, seq_l, seq_t, seq_s, tuple_l, tuple_t, list_l, list_t, list_s, on1_p, abs_i, int_b, int_i, max_ii, min_ii, rev_l, rev_t, zip_ll, zip_tt, cat_ll, range_1, range_2, slot_0, slot_s, isi_int_i, isi_int_b, isi_bool_i, isi_bool_b, isi_tup_t, isi_tup_l, isi_lst_l, isi_lst_t, isi_str_s, isi_str_i, isi_str_b, isi_str_n, isi_lt_l, isi_lt_t, isi_lt_i, isi_lt_b, isi_lt_s, isi_lt_n, at_0, at_1, at_2, at_3, at_last, mg_name, mg_tup, mg_nil, mg_cons, own0_own, startR_eq, wipe_0, wipe_1, back_0, back_1, ixN_3_0, ixN_3_1, ixN_3_2, szl, sze, wp_dict, eq_ww, ix_tv0, ix_tv1, tv_mk, mg_tv, tuple_tv, tvs, List.reverse_nil, List.isEmpty_nil, szl]
      exact ⟨_, _, rfl⟩
    | cons a r =>
      obtain ⟨aw, am⟩ := a
      obtain ⟨w, m⟩ := t
      have ne : (tvs r.reverse ++ [tv (aw, am)]).isEmpty = false := by simp
      have h1 : (tvs r.reverse).length ≤ 1000000 := by simp at hlen; simp [tvs]; omega
      have h2 : (tvs r.reverse ++ [tv (aw, am)]).length ≤ 1000000 := by simp at hlen; simp [tvs]; omega
      simp -implicitDefEqProofs only [Nat.reduceSub, Nat.reduceAdd, Int.reduceLT, Int.reduceLE, Int.reduceGT, Int.reduceGE, Int.reduceEq, Int.reducePow, Nat.reducePow, Nat.reduceMul, Int.reduceNeg, Int.reduceToNat, Int.reduceAbs, Int.reduceMod, Int.reduceDiv, Int.reduceAdd, Int.reduceSub, Int.reduceMul, Nat.reduceLT, Nat.reduceLeDiff, Nat.reduceEqDiff, decide_eq_true_eq, decide_true, decide_false, and_true, true_and, true_or, or_true, false_or, or_false, and_false, false_and, if_false, ite_true, ite_false, PV.int.injEq, PV.bl.injEq, exists_eq_left', Bool.not_true, Bool.not_false, Bool.false_eq_true, not_true_eq_false, not_false_eq_true, reduceCtorEq, Option.some.injEq, wp_ok, wp_exc, wp_bad, wo_some, wo_none, wo_if, wo_map, wo_bind, wp_of, ws_nx, ws_rt, ws_rf, ws_bk, ws_ct, ws_exc, ws_bad, wp_name, wp_c, wp_m2, wp_m1, wp_test, wp_truthN, wp_lenN, wp_ixN, wp_and, wp_or, wp_notT, wp_andV, wp_orV, wp_notV, wp_if, wp_ifF, wp_args0, wp_args1, wp_tup, wp_frz, wp_callB, wp_callF, wp_cat, wp_repL, wp_chain, wp_cut, wp_part0, wp_part1, wp_call, wp_callFr, wp_callBx, wp_popN, wp_index, wp_yes, wp_seqI, wp_range, wp_revI, wp_zip, ws_seq, ws_nil, ws_pass, ws_ret, ws_retF, ws_retN, ws_set, ws_setF, ws_if, ws_asg, ws_par, ws_par3, ws_parF, ws_aug, ws_append, ws_setIx, wpP_runP, wpF_runF, wpB_runB, wpP_ok, wpF_ok, wpP_exc, wpB_ok, ws_for', ws_forNil, wp_comp, wpC_nil, ev_g0, ev_gs, ev_gn, ev_s0, ev_ss, ev_m0, ev_m1, ev_a0, ev_a1, ev_r0, ev_rs, ev_l0, ev_l1, ev_d0, ev_d1, ev_ob, ev_om, ev_it, ev_if, ev_gl, ev_gl1, ev_dl, ev_dl1, ev_gla, ev_dla, add_ii, addI_ii, sub_ii, add_ll, add_tt, mod_ii, div_ii, pow_ii, mul_ii, mul_li, lt_ii, le_ii, gt_ii, ge_ii, neg_i, eq_ii, ne_ii, eq_bb, ne_bb, is_bb, isnot_bb, is_n, is_in, is_sn, is_bn, is_tn, is_ln, isnot_n, isnot_in, truth_b, truth_i, truth_l, truth_t, len_l, len_t, len_s, ix_l, ix_t, ix_s, seq_l, seq_t, seq_s, tuple_l, tuple_t, list_l, list_t, list_s, on1_p, abs_i, int_b, int_i, max_ii, min_ii, rev_l, rev_t, zip_ll, zip_tt, cat_ll, range_1, range_2, slot_0, slot_s, isi_int_i, isi_int_b, isi_bool_i, isi_bool_b, isi_tup_t, isi_tup_l, isi_lst_l, isi_lst_t, isi_str_s, isi_str_i, isi_str_b, isi_str_n, isi_lt_l, isi_lt_t, isi_lt_i, isi_lt_b, isi_lt_s, isi_lt_n, at_0, at_1, at_2, at_3, at_last, mg_name, mg_tup, mg_nil, mg_cons, own0_own, startR_eq, wipe_0, wipe_1, back_0, back_1, ixN_3_0, ixN_3_1, ixN_3_2, szl, sze, wp_dict, eq_ww, ix_tv0, ix_tv1, tv_mk, mg_tv, tuple_tv, tvs_rev, ne]
      by_cases hw : aw = w
      · subst hw
        simp -implicitDefEqProofs only [Nat.reduceSub, Nat.reduceAdd, Int.reduceLT, Int.reduceLE, Int.reduceGT, Int.reduceGE, Int.reduceEq, Int.reducePow, Nat.reducePow, Nat.reduceMul, Int.reduceNeg, Int.reduceToNat, Int.reduceAbs, Int.reduceMod, Int.reduceDiv, Int.reduceAdd, Int.reduceSub, Int.reduceMul, Nat.reduceLT, Nat.reduceLeDiff, Nat.reduceEqDiff, decide_eq_true_eq, decide_true, decide_false, and_true, true_and, true_or, or_true, false_or, or_false, and_false, false_and, if_false, ite_true, ite_false, PV.int.injEq, PV.bl.injEq, exists_eq_left', Bool.not_true, Bool.not_false, Bool.false_eq_true, not_true_eq_false, not_false_eq_true, reduceCtorEq, Option.some.injEq, wp_ok, wp_exc, wp_bad, wo_some, wo_none, wo_if, wo_map, wo_bind, wp_of, ws_nx, ws_rt, ws_rf, ws_bk, ws_ct, ws_exc, ws_bad, wp_name, wp_c, wp_m2, wp_m1, wp_test, wp_truthN, wp_lenN, wp_ixN, wp_and, wp_or, wp_notT, wp_andV, wp_orV, wp_notV, wp_if, wp_ifF, wp_args0, wp_args1, wp_tup, wp_frz, wp_callB, wp_callF, wp_cat, wp_repL, wp_chain, wp_cut, wp_part0, wp_part1, wp_call, wp_callFr, wp_callBx, wp_popN, wp_index, wp_yes, wp_seqI, wp_range, wp_revI, wp_zip, ws_seq, ws_nil, ws_pass, ws_ret, ws_retF, ws_retN, ws_set, ws_setF, ws_if, ws_asg, ws_par, ws_par3, ws_parF, ws_aug, ws_append, ws_setIx, wpP_runP, wpF_runF, wpB_runB, wpP_ok, wpF_ok, wpP_exc, wpB_ok, ws_for', ws_forNil, wp_comp, wpC_nil, ev_g0, ev_gs, ev_gn, ev_s0, ev_ss, ev_m0, ev_m1, ev_a0, ev_a1, ev_r0, ev_rs, ev_l0, ev_l1, ev_d0, ev_d1, ev_ob, ev_om, ev_it, ev_if, ev_gl, ev_gl1, ev_dl, ev_dl1, ev_gla, ev_dla, add_ii, addI_ii, sub_ii, add_ll, add_tt, mod_ii, div_ii, pow_ii, mul_ii, mul_li, lt_ii, le_ii, gt_ii, ge_ii, neg_i, eq_ii, ne_ii, eq_bb, ne_bb, is_bb, isnot_bb, is_n, is_in, is_sn, is_bn, is_tn, is_ln, isnot_n, isnot_in, truth_b, truth_i, truth_l, truth_t, len_l, len_t, len_s, ix_l, ix_t, ix_s, seq_l, seq_t, seq_s, tuple_l, tuple_t, list_l, list_t, list_s, on1_p, abs_i, int_b, int_i, max_ii, min_ii, rev_l, rev_t, zip_ll, zip_tt, cat_ll, range_1, range_2, slot_0, slot_s, isi_int_i, isi_int_b, isi_bool_i, isi_bool_b, isi_tup_t, isi_tup_l, isi_lst_l, isi_lst_t, isi_str_s, isi_str_i, isi_str_b, isi_str_n, isi_lt_l, isi_lt_t, isi_lt_i, isi_lt_b, isi_lt_s, isi_lt_n, at_0, at_1, at_2, at_3, at_last, mg_name, mg_tup, mg_nil, mg_cons, own0_own, startR_eq, wipe_0, wipe_1, back_0, back_1, ixN_3_0, ixN_3_1, ixN_3_2, szl, sze, wp_dict, eq_ww, ix_tv0, ix_tv1, tv_mk, mg_tv, tuple_tv, beq_self_eq_true, szl h1]
        rw [← tvs_rev, show List.foldl jnR ((aw, am) :: r) [(aw, m)] = (aw, m + am) :: r by simp [jnR]]
        exact ⟨_, _, rfl⟩
      · have hb : (aw == w) = false := by simpa using hw
        simp -implicitDefEqProofs only [Nat.reduceSub, Nat.reduceAdd, Int.reduceLT, Int.reduceLE, Int.reduceGT, Int.reduceGE, Int.reduceEq, Int.reducePow, Nat.reducePow, Nat.reduceMul, Int.reduceNeg, Int.reduceToNat, Int.reduceAbs, Int.reduceMod, Int.reduceDiv, Int.reduceAdd, Int.reduceSub, Int.reduceMul, Nat.reduceLT, Nat.reduceLeDiff, Nat.reduceEqDiff, decide_eq_true_eq, decide_true, decide_false, and_true, true_and, true_or, or_true, false_or, or_false, and_false, false_and, if_false, ite_true, ite_false, PV.int.injEq, PV.bl.injEq, exists_eq_left', Bool.not_true, Bool.not_false, Bool.false_eq_true, not_true_eq_false, not_false_eq_true, reduceCtorEq, Option.some.injEq, wp_ok, wp_exc, wp_bad, wo_some, wo_none, wo_if, wo_map, wo_bind, wp_of, ws_nx, ws_rt, ws_rf, ws_bk, ws_ct, ws_exc, ws_bad, wp_name, wp_c, wp_m2, wp_m1, wp_test, wp_truthN, wp_lenN, wp_ixN, wp_and, wp_or, wp_notT, wp_andV, wp_orV, wp_notV, wp_if, wp_ifF, wp_args0, wp_args1, wp_tup, wp_frz, wp_callB, wp_callF, wp_cat, wp_repL, wp_chain, wp_cut, wp_part0, wp_part1, wp_call, wp_callFr, wp_callBx, wp_popN, wp_index, wp_yes, wp_seqI, wp_range, wp_revI, wp_zip, ws_seq, ws_nil, ws_pass, ws_ret, ws_retF, ws_retN, ws_set, ws_setF, ws_if, ws_asg, ws_par, ws_par3, ws_parF, ws_aug, ws_append, ws_setIx, wpP_runP, wpF_runF, wpB_runB, wpP_ok, wpF_ok, wpP_exc, wpB_ok, ws_for', ws_forNil, wp_comp, wpC_nil, ev_g0, ev_gs, ev_gn, ev_s0, ev_ss, ev_m0, ev_m1, ev_a0, ev_a1, ev_r0, ev_rs, ev_l0, ev_l1, ev_d0, ev_d1, ev_ob, ev_om, ev_it, ev_if, ev_gl, ev_gl1, ev_dl, ev_dl1, ev_gla, ev_dla, add_ii, addI_ii, sub_ii, add_ll, add_tt, mod_ii, div_ii, pow_ii, mul_ii, mul_li, lt_ii, le_ii, gt_ii, ge_ii, neg_i, eq_ii, ne_ii, eq_bb, ne_bb, is_bb, isnot_bb, is_n, is_in, is_sn, is_bn, is_tn, is_ln, isnot_n, isnot_in, truth_b, truth_i, truth_l, truth_t, len_l, len_t, len_s, ix_l, ix_t, ix_s, seq_l, seq_t, seq_s, tuple_l, tuple_t, list_l, list_t, list_s, on1_p, abs_i, int_b, int_i, max_ii, min_ii, rev_l, rev_t, zip_ll, zip_tt, cat_ll, range_1, range_2, slot_0, slot_s, isi_int_i, isi_int_b, isi_bool_i, isi_bool_b, isi_tup_t, isi_tup_l, isi_lst_l, isi_lst_t, isi_str_s, isi_str_i, isi_str_b, isi_str_n, isi_lt_l, isi_lt_t, isi_lt_i, isi_lt_b, isi_lt_s, isi_lt_n, at_0, at_1, at_2, at_3, at_last, mg_name, mg_tup, mg_nil, mg_cons, own0_own, startR_eq, wipe_0, wipe_1, back_0, back_1, ixN_3_0, ixN_3_1, ixN_3_2, szl, sze, wp_dict, eq_ww, ix_tv0, ix_tv1, tv_mk, mg_tv, tuple_tv, hb, szl h2]
        rw [← tvs_rev, ← tvs_rev, show List.foldl jnR ((aw, am) :: r) [(w, m)] = (w, m) :: (aw, am) :: r by simp [jnR, hw]]
        exact ⟨_, _, rfl⟩
  · rintro ρ ⟨j, j2, rfl⟩
    simp -implicitDefEqProofs only [Nat.reduceSub, Nat.reduceAdd, Int.reduceLT, Int.reduceLE, Int.reduceGT, Int.reduceGE, Int.reduceEq, Int.reducePow, Nat.reducePow, Nat.reduceMul, Int.reduceNeg, Int.reduceToNat, Int.reduceAbs, Int.reduceMod, Int.reduceDiv, Int.reduceAdd, Int.reduceSub, Int.reduceMul, Nat.reduceLT, Nat.reduceLeDiff, Nat.reduceEqDiff, decide_eq_true_eq, decide_true, decide_false, and_true, true_and, true_or, or_true, false_or, or_false, and_false, false_and, if_false, ite_true, ite_false, PV.int.injEq, PV.bl.injEq, exists_eq_left', Bool.not_true, Bool.not_false, Bool.false_eq_true, not_true_eq_false, not_false_eq_true, reduceCtorEq, Option.some.injEq, wp_ok, wp_exc, wp_bad, wo_some, wo_none, wo_if, wo_map, wo_bind, wp_of, ws_nx, ws_rt, ws_rf, ws_bk, ws_ct, ws_exc, ws_bad, wp_name, wp_c, wp_m2, wp_m1, wp_test, wp_truthN, wp_lenN, wp_ixN, wp_and, wp_or, wp_notT, wp_andV, wp_orV, wp_notV, wp_if, wp_ifF, wp_args0, wp_args1, wp_tup, wp_frz, wp_callB, wp_callF, wp_cat, wp_repL, wp_chain, wp_cut, wp_part0, wp_part1, wp_call, wp_callFr, wp_callBx, wp_popN, wp_index, wp_yes, wp_seqI, wp_range, wp_revI, wp_zip, ws_seq, ws_nil, ws_pass, ws_ret, ws_retF, ws_retN, ws_set, ws_setF, ws_if, ws_asg, ws_par, ws_par3, ws_parF, ws_aug, ws_append, ws_setIx, wpP_runP, wpF_runF, wpB_runB, wpP_ok, wpF_ok, wpP_exc, wpB_ok, ws_for', ws_forNil, wp_comp, wpC_nil, ev_g0, ev_gs, ev_gn, ev_s0, ev_ss, ev_m0, ev_m1, ev_a0, ev_a1, ev_r0, ev_rs, ev_l0, ev_l1, ev_d0, ev_d1, ev_ob, ev_om, ev_it, ev_if, ev_gl, ev_gl1, ev_dl, ev_dl1, ev_gla, ev_dla, add_ii, addI_ii, sub_ii, add_ll, add_tt, mod_ii, div_ii, pow_ii, mul_ii, mul_li, lt_ii, le_ii, gt_ii, ge_ii, neg_i, eq_ii, ne_ii, eq_bb, ne_bb, is_bb, isnot_bb, is_n, is_in, is_sn, is_bn, is_tn, is_ln, isnot_n, isnot_in, truth_b, truth_i, truth_l, truth_t, len_l, len_t, len_s, ix_l, ix_t, ix_s, seq_l, seq_t, seq_s, tuple_l, tuple_t, list_l, list_t, list_s, on1_p, abs_i, int_b, int_i, max_ii, min_ii, rev_l, rev_t, zip_ll, zip_tt, cat_ll, range_1, range_2, slot_0, slot_s, isi_int_i, isi_int_b, isi_bool_i, isi_bool_b, isi_tup_t, isi_tup_l, isi_lst_l, isi_lst_t, isi_str_s, isi_str_i, isi_str_b, isi_str_n, isi_lt_l, isi_lt_t, isi_lt_i, isi_lt_b, isi_lt_s, isi_lt_n, at_0, at_1, at_2, at_3, at_last, mg_name, mg_tup, mg_nil, mg_cons, own0_own, startR_eq, wipe_0, wipe_1, back_0, back_1, ixN_3_0, ixN_3_1, ixN_3_2, szl, sze, wp_dict, eq_ww, ix_tv0, ix_tv1, tv_mk, mg_tv, tuple_tv]
    simp [jn, tvs]
/-! forgets -/
def gd (l : List T) (i : Nat) : Int := (l.getD i (true, 0)).2
def cnd (l : List T) (i : Nat) : Bool := decide (gd l (i + 1) ≤ min (gd l i) (gd l (i + 2)))
def fgs (l : List T) : List Int := ((List.range (l.length - 2)).filter (cnd l)).map fun i : Nat => (1 + (i : Int))
theorem at_tvs {l : List T} {i : Nat} (h : i < l.length) : atI (tvs l) (i : Int) = some (tv (l.getD i (true, 0))) := by
  rw [at_nat, tvs, List.getElem?_map, List.getElem?_eq_getElem h]
  simp [List.getD, h]
theorem rangeP_get {lo : Int} {n i : Nat} {p : PV} (h : (rangeP lo n)[i]? = some p) : i < n ∧ p = .int (lo + i) := by
  unfold rangeP at h
  rw [List.getElem?_map] at h
  have hi : i < n := by
    by_cases z : i < n
    · exact z
    · rw [List.getElem?_eq_none (by simp; omega)] at h; cases h
  rw [List.getElem?_range hi] at h
  cases h
  exact ⟨hi, rfl⟩
theorem fgs_ok (ts : List T) (hl : ts.length ≤ 900) : f_forgets [.lst (tvs ts)] = .ok (.lst ((fgs (jn ts)).map .int)) := by
  have hj := jn_ok ts hl
  have hlen : (jn ts).length ≤ 900 := by have := jn_len ts []; simp at this; unfold jn; simp; omega
  generalize jn ts = l at hj hlen ⊢
  rw [wpP_eq]
  simp -implicitDefEqProofs only [Nat.reduceSub, Nat.reduceAdd, Int.reduceLT, Int.reduceLE, Int.reduceGT, Int.reduceGE, Int.reduceEq, Int.reducePow, Nat.reducePow, Nat.reduceMul, Int.reduceNeg, Int.reduceToNat, Int.reduceAbs, Int.reduceMod, Int.reduceDiv, Int.reduceAdd, Int.reduceSub, Int.reduceMul, Nat.reduceLT, Nat.reduceLeDiff, Nat.reduceEqDiff, decide_eq_true_eq, decide_true, decide_false, and_true, true_and, true_or, or_true, false_or, or_false, and_false, false_and, if_false, ite_true, ite_false, PV.int.injEq, PV.bl.injEq, exists_eq_left', Bool.not_true, Bool.not_false, Bool.false_eq_true, not_true_eq_false, not_false_eq_true, reduceCtorEq, Option.some.injEq, wp_ok, wp_exc, wp_bad, wo_some, wo_none, wo_if, wo_map, wo_bind, wp_of, ws_nx, ws_rt, ws_rf, ws_bk, ws_ct, ws_exc, ws_bad, wp_name, wp_c, wp_m2, wp_m1, wp_test, wp_truthN, wp_lenN, wp_ixN, wp_and, wp_or, wp_notT, wp_andV, wp_orV, wp_notV, wp_if, wp_ifF, wp_args0, wp_args1, wp_tup, wp_frz, wp_callB, wp_callF, wp_cat, wp_repL, wp_chain, wp_cut, wp_part0, wp_part1, wp_call, wp_callFr, wp_callBx, wp_popN, wp_index, wp_yes, wp_seqI, wp_range, wp_revI, wp_zip, ws_seq, ws_nil, ws_pass, ws_ret, ws_retF, ws_retN, ws_set, ws_setF, ws_if, ws_asg, ws_par, ws_par3, ws_parF, ws_aug, ws_append, ws_setIx, wpP_runP, wpF_runF, wpB_runB, wpP_ok, wpF_ok, wpP_exc, wpB_ok, ws_for', ws_forNil, wp_comp, wpC_nil, ev_g0, ev_gs, ev_gn, ev_s0, ev_ss, ev_m0, ev_m1, ev_a0, ev_a1, ev_r0, ev_rs, ev_l0, ev_l1, ev_d0, ev_d1, ev_ob, ev_om, ev_it, ev_if, ev_gl, ev_gl1, ev_dl, ev_dl1, ev_gla, ev_dla, add_ii, addI_ii, sub_ii, add_ll, add_tt, mod_ii, div_ii, pow_ii, mul_ii, mul_li, lt_ii, le_ii, gt_ii, ge_ii, neg_i, eq_ii, ne_ii, eq_bb, ne_bb, is_bb, isnot_bb, is_n, is_in, is_sn, is_bn, is_tn, is_ln, isnot_n, isnot_in, truth_b, truth_i, truth_l, truth_t, len_l, len_t, len_s, ix_l, ix_t, ix_s, seq_l, seq_t, seq_s, tuple_l, tuple_t, list_l, list_t, list_s, on1_p, abs_i, int_b, int_i, max_ii, min_ii, rev_l, rev_t, zip_ll, zip_tt, cat_ll, range_1, range_2, slot_0, slot_s, isi_int_i, isi_int_b, isi_bool_i, isi_bool_b, isi_tup_t, isi_tup_l, isi_lst_l, isi_lst_t, isi_str_s, isi_str_i, isi_str_b, isi_str_n, isi_lt_l, isi_lt_t, isi_lt_i, isi_lt_b, isi_lt_s, isi_lt_n, at_0, at_1, at_2, at_3, at_last, mg_name, mg_tup, mg_nil, mg_cons, own0_own, startR_eq, wipe_0, wipe_1, back_0, back_1, ixN_3_0, ixN_3_1, ixN_3_2, szl, sze, wp_dict, eq_ww, ix_tv0, ix_tv1, tv_mk, mg_tv, tuple_tv, f_forgets, c_forgets, hj, tvs_length]
  rw [if_pos (by omega)]
  have hn : ((l.length : Int) - 1 - 1).toNat = l.length - 2 := by omega
  rw [hn]
  refine wpC_inv (fun i acc ρ => ρ = [.val (.lst (tvs ts)), .val (.lst (tvs l)), .emp] ∧ acc = (((List.range i).filter (cnd l)).map fun i : Nat => (1 + (i : Int))).map .int ∧ acc.length ≤ i) ⟨rfl, rfl, by simp⟩ ?_ ?_
  · rintro i p acc ρ e ⟨rfl, rfl, ha⟩
    obtain ⟨hi, rfl⟩ := rangeP_get e
    have a0 : atI (tvs l) (1 + (i : Int)) = some (tv (l.getD (i + 1) (true, 0))) := by rw [show (1 + (i : Int)) = ((i + 1 : Nat) : Int) by omega]; exact at_tvs (by omega)
    have a1 : atI (tvs l) (1 + (i : Int) - 1) = some (tv (l.getD i (true, 0))) := by rw [show (1 + (i : Int) - 1) = ((i : Nat) : Int) by omega]; exact at_tvs (by omega)
    have a2 : atI (tvs l) (1 + (i : Int) + 1) = some (tv (l.getD (i + 2) (true, 0))) := by rw [show (1 + (i : Int) + 1) = ((i + 2 : Nat) : Int) by omega]; exact at_tvs (by omega)
    simp -implicitDefEqProofs only [Nat.reduceSub, Nat.reduceAdd, Int.reduceLT, Int.reduceLE, Int.reduceGT, Int.reduceGE, Int.reduceEq, Int.reducePow, Nat.reducePow, Nat.reduceMul, Int.reduceNeg, Int.reduceToNat, Int.reduceAbs, Int.reduceMod, Int.reduceDiv, Int.reduceAdd, Int.reduceSub, Int.reduceMul, Nat.reduceLT, Nat.reduceLeDiff, Nat.reduceEqDiff, decide_eq_true_eq, decide_true, decide_false, and_true, true_and, true_or, or_true, false_or, or_false, and_false, false_and, if_false, ite_true, ite_false, PV.int.injEq, PV.bl.injEq, exists_eq_left', Bool.not_true, Bool.not_false, Bool.false_eq_true, not_true_eq_false, not_false_eq_true, reduceCtorEq, Option.some.injEq, wp_ok, wp_exc, wp_bad, wo_some, wo_none, wo_if, wo_map, wo_bind, wp_of, ws_nx, ws_rt, ws_rf, ws_bk, ws_ct, ws_exc, ws_bad, wp_name, wp_c, wp_m2, wp_m1, wp_test, wp_truthN, wp_lenN, wp_ixN, wp_and, wp_or, wp_notT, wp_andV, wp_orV, wp_notV, wp_if, wp_ifF, wp_args0, wp_args1, wp_tup, wp_frz, wp_callB, wp_callF, wp_cat, wp_repL, wp_chain, wp_cut, wp_part0, wp_part1, wp_call, wp_callFr, wp_callBx, wp_popN, wp_index, wp_yes, wp_seqI, wp_range, wp_revI, wp_zip, ws_seq, ws_nil, ws_pass, ws_ret, ws_retF, ws_retN, ws_set, ws_setF, ws_if, ws_asg, ws_par, ws_par3, ws_parF, ws_aug, ws_append, ws_setIx, wpP_runP, wpF_runF, wpB_runB, wpP_ok, wpF_ok, wpP_exc, wpB_ok, ws_for', ws_forNil, wp_comp, wpC_nil, ev_g0, ev_gs, ev_gn, ev_s0, ev_ss, ev_m0, ev_m1, ev_a0, ev_a1, ev_r0, ev_rs, ev_l0, ev_l1, ev_d0, ev_d1, ev_ob, ev_om, ev_it, ev_if, ev_gl, ev_gl1, ev_dl, ev_dl1, ev_gla, ev_dla, add_ii, addI_ii, sub_ii, add_ll, add_tt, mod_ii, div_ii, pow_ii, mul_ii, mul_li, lt_ii, le_ii, gt_ii, ge_ii, neg_i, eq_ii, ne_ii, eq_bb, ne_bb, is_bb, isnot_bb, is_n, is_in, is_sn, is_bn, is_tn, is_ln, isnot_n, isnot_in, truth_b, truth_i, truth_l, truth_t, len_l, len_t, len_s, ix_l, ix_t, ix_s, seq_l, seq_t, seq_s, tuple_l, tuple_t, list_l, list_t, list_s, on1_p, abs_i, int_b, int_i, max_ii, min_ii, rev_l, rev_t, zip_ll, zip_tt, cat_ll, range_1, range_2, slot_0, slot_s, isi_int_i, isi_int_b, isi_bool_i, isi_bool_b, isi_tup_t, isi_tup_l, isi_lst_l, isi_lst_t, isi_str_s, isi_str_i, isi_str_b, isi_str_n, isi_lt_l, isi_lt_t, isi_lt_i, isi_lt_b, isi_lt_s, isi_lt_n, at_0, at_1, at_2, at_3, at_last, mg_name, mg_tup, mg_nil, mg_cons, own0_own, startR_eq, wipe_0, wipe_1, back_0, back_1, ixN_3_0, ixN_3_1, ixN_3_2, szl, sze, wp_dict, eq_ww, ix_tv0, ix_tv1, tv_mk, mg_tv, tuple_tv, a0, a1, a2]
    have hz := szl (Nat.le_trans ha (show i ≤ 1000000 by omega))
    have hcc : ((l.getD (i + 1) (true, 0)).2 ≤ min (l.getD i (true, 0)).2 (l.getD (i + 2) (true, 0)).2) ↔ cnd l i = true := by simp [cnd, gd]
    by_cases hc : cnd l i = true
    · rw [if_pos (hcc.mpr hc), hz]
      refine ⟨trivial, ?_, by simp at ha ⊢; omega⟩
      rw [List.range_succ, List.filter_append]
      simp [hc]
    · rw [if_neg (fun z => hc (hcc.mp z))]
      refine ⟨?_, by omega⟩
      rw [List.range_succ, List.filter_append]
      simp [hc]
  · rintro acc ρ ⟨rfl, rfl, _⟩
    simp [rangeP, fgs]
/-! turns or not -/
theorem in_ww (w : Bool) : pvIn (.str (wy w)) (.tup [.str "forth", .str "back"]) = some (.bl true) := by
  cases w <;> rfl
theorem isi_tv (t : T) : pvIsI [tv t, .ty "tuple"] = some (.bl true) := rfl
theorem len_tv (t : T) : pvLen (tv t) = some (.int 2) := rfl
theorem isturn_ok (t : T) : f_is_turn [tv t] = .ok (.bl (decide (1 ≤ t.2))) := by
  obtain ⟨w, m⟩ := t
  have h : f_is_number [.int m] = .ok (.bl true) := by
    rw [wpP_eq]
    simp -implicitDefEqProofs only [Nat.reduceSub, Nat.reduceAdd, Int.reduceLT, Int.reduceLE, Int.reduceGT, Int.reduceGE, Int.reduceEq, Int.reducePow, Nat.reducePow, Nat.reduceMul, Int.reduceNeg, Int.reduceToNat, Int.reduceAbs, Int.reduceMod, Int.reduceDiv, Int.reduceAdd, Int.reduceSub, Int.reduceMul, Nat.reduceLT, Nat.reduceLeDiff, Nat.reduceEqDiff, decide_eq_true_eq, decide_true, decide_false, and_true, true_and, true_or, or_true, false_or, or_false, and_false, false_and, if_false, ite_true, ite_false, PV.int.injEq, PV.bl.injEq, exists_eq_left', Bool.not_true, Bool.not_false, Bool.false_eq_true, not_true_eq_false, not_false_eq_true, reduceCtorEq, Option.some.injEq, wp_ok, wp_exc, wp_bad, wo_some, wo_none, wo_if, wo_map, wo_bind, wp_of, ws_nx, ws_rt, ws_rf, ws_bk, ws_ct, ws_exc, ws_bad, wp_name, wp_c, wp_m2, wp_m1, wp_test, wp_truthN, wp_lenN, wp_ixN, wp_and, wp_or, wp_notT, wp_andV, wp_orV, wp_notV, wp_if, wp_ifF, wp_args0, wp_args1, wp_tup, wp_frz, wp_callB, wp_callF, wp_cat, wp_repL, wp_chain, wp_cut, wp_part0, wp_part1, wp_call, wp_callFr, wp_callBx, wp_popN, wp_index, wp_yes, wp_seqI, wp_range, wp_revI, wp_zip, ws_seq, ws_nil, ws_pass, ws_ret, ws_retF, ws_retN, ws_set, ws_setF, ws_if, ws_asg, ws_par, ws_par3, ws_parF, ws_aug, ws_append, ws_setIx, wpP_runP, wpF_runF, wpB_runB, wpP_ok, wpF_ok, wpP_exc, wpB_ok, ws_for', ws_forNil, wp_comp, wpC_nil, ev_g0, ev_gs, ev_gn, ev_s0, ev_ss, ev_m0, ev_m1, ev_a0, ev_a1, ev_r0, ev_rs, ev_l0, ev_l1, ev_d0, ev_d1, ev_ob, ev_om, ev_it, ev_if, ev_gl, ev_gl1, ev_dl, ev_dl1, ev_gla, ev_dla, add_ii, addI_ii, sub_ii, add_ll, add_tt, mod_ii, div_ii, pow_ii, mul_ii, mul_li, lt_ii, le_ii, gt_ii, ge_ii, neg_i, eq_ii, ne_ii, eq_bb, ne_bb, is_bb, isnot_bb, is_n, is_in, is_sn, is_bn, is_tn, is_ln, isnot_n, isnot_in, truth_b, truth_i, truth_l, truth_t, len_l, len_t, len_s, ix_l, ix_t, ix_s, seq_l, seq_t, seq_s, tuple_l, tuple_t, list_l, list_t, list_s, on1_p, abs_i, int_b, int_i, max_ii, min_ii, rev_l, rev_t, zip_ll, zip_tt, cat_ll, range_1, range_2, slot_0, slot_s, isi_int_i, isi_int_b, isi_bool_i, isi_bool_b, isi_tup_t, isi_tup_l, isi_lst_l, isi_lst_t, isi_str_s, isi_str_i, isi_str_b, isi_str_n, isi_lt_l, isi_lt_t, isi_lt_i, isi_lt_b, isi_lt_s, isi_lt_n, at_0, at_1, at_2, at_3, at_last, mg_name, mg_tup, mg_nil, mg_cons, own0_own, startR_eq, wipe_0, wipe_1, back_0, back_1, ixN_3_0, ixN_3_1, ixN_3_2, szl, sze, wp_dict, eq_ww, ix_tv0, ix_tv1, tv_mk, mg_tv, tuple_tv, in_ww, isi_tv, len_tv, f_is_number, c_is_number]
  rw [wpP_eq]
  simp -implicitDefEqProofs only [Nat.reduceSub, Nat.reduceAdd, Int.reduceLT, Int.reduceLE, Int.reduceGT, Int.reduceGE, Int.reduceEq, Int.reducePow, Nat.reducePow, Nat.reduceMul, Int.reduceNeg, Int.reduceToNat, Int.reduceAbs, Int.reduceMod, Int.reduceDiv, Int.reduceAdd, Int.reduceSub, Int.reduceMul, Nat.reduceLT, Nat.reduceLeDiff, Nat.reduceEqDiff, decide_eq_true_eq, decide_true, decide_false, and_true, true_and, true_or, or_true, false_or, or_false, and_false, false_and, if_false, ite_true, ite_false, PV.int.injEq, PV.bl.injEq, exists_eq_left', Bool.not_true, Bool.not_false, Bool.false_eq_true, not_true_eq_false, not_false_eq_true, reduceCtorEq, Option.some.injEq, wp_ok, wp_exc, wp_bad, wo_some, wo_none, wo_if, wo_map, wo_bind, wp_of, ws_nx, ws_rt, ws_rf, ws_bk, ws_ct, ws_exc, ws_bad, wp_name, wp_c, wp_m2, wp_m1, wp_test, wp_truthN, wp_lenN, wp_ixN, wp_and, wp_or, wp_notT, wp_andV, wp_orV, wp_notV, wp_if, wp_ifF, wp_args0, wp_args1, wp_tup, wp_frz, wp_callB, wp_callF, wp_cat, wp_repL, wp_chain, wp_cut, wp_part0, wp_part1, wp_call, wp_callFr, wp_callBx, wp_popN, wp_index, wp_yes, wp_seqI, wp_range, wp_revI, wp_zip, ws_seq, ws_nil, ws_pass, ws_ret, ws_retF, ws_retN, ws_set, ws_setF, ws_if, ws_asg, ws_par, ws_par3, ws_parF, ws_aug, ws_append, ws_setIx, wpP_runP, wpF_runF, wpB_runB, wpP_ok, wpF_ok, wpP_exc, wpB_ok, ws_for', ws_forNil, wp_comp, wpC_nil, ev_g0, ev_gs, ev_gn, ev_s0, ev_ss, ev_m0, ev_m1, ev_a0, ev_a1, ev_r0, ev_rs, ev_l0, ev_l1, ev_d0, ev_d1, ev_ob, ev_om, ev_it, ev_if, ev_gl, ev_gl1, ev_dl, ev_dl1, ev_gla, ev_dla, add_ii, addI_ii, sub_ii, add_ll, add_tt, mod_ii, div_ii, pow_ii, mul_ii, mul_li, lt_ii, le_ii, gt_ii, ge_ii, neg_i, eq_ii, ne_ii, eq_bb, ne_bb, is_bb, isnot_bb, is_n, is_in, is_sn, is_bn, is_tn, is_ln, isnot_n, isnot_in, truth_b, truth_i, truth_l, truth_t, len_l, len_t, len_s, ix_l, ix_t, ix_s, seq_l, seq_t, seq_s, tuple_l, tuple_t, list_l, list_t, list_s, on1_p, abs_i, int_b, int_i, max_ii, min_ii, rev_l, rev_t, zip_ll, zip_tt, cat_ll, range_1, range_2, slot_0, slot_s, isi_int_i, isi_int_b, isi_bool_i, isi_bool_b, isi_tup_t, isi_tup_l, isi_lst_l, isi_lst_t, isi_str_s, isi_str_i, isi_str_b, isi_str_n, isi_lt_l, isi_lt_t, isi_lt_i, isi_lt_b, isi_lt_s, isi_lt_n, at_0, at_1, at_2, at_3, at_last, mg_name, mg_tup, mg_nil, mg_cons, own0_own, startR_eq, wipe_0, wipe_1, back_0, back_1, ixN_3_0, ixN_3_1, ixN_3_2, szl, sze, wp_dict, eq_ww, ix_tv0, ix_tv1, tv_mk, mg_tv, tuple_tv, in_ww, isi_tv, len_tv, f_is_turn, c_is_turn, h]
theorem bls_map {α : Type} (f : α → Bool) (l : List α) : blsP (l.map fun a => .bl (f a)) = some (l.map f) := by
  induction l with
  | nil => rfl
  | cons x xs ih => simp [blsP, ih]
theorem isturns_ok (ts : List T) (hl : ts.length ≤ 900) : f_is_turns [.lst (tvs ts)] = .ok (.bl (ts.all fun t => decide (1 ≤ t.2))) := by
  rw [wpP_eq]
  simp -implicitDefEqProofs only [Nat.reduceSub, Nat.reduceAdd, Int.reduceLT, Int.reduceLE, Int.reduceGT, Int.reduceGE, Int.reduceEq, Int.reducePow, Nat.reducePow, Nat.reduceMul, Int.reduceNeg, Int.reduceToNat, Int.reduceAbs, Int.reduceMod, Int.reduceDiv, Int.reduceAdd, Int.reduceSub, Int.reduceMul, Nat.reduceLT, Nat.reduceLeDiff, Nat.reduceEqDiff, decide_eq_true_eq, decide_true, decide_false, and_true, true_and, true_or, or_true, false_or, or_false, and_false, false_and, if_false, ite_true, ite_false, PV.int.injEq, PV.bl.injEq, exists_eq_left', Bool.not_true, Bool.not_false, Bool.false_eq_true, not_true_eq_false, not_false_eq_true, reduceCtorEq, Option.some.injEq, wp_ok, wp_exc, wp_bad, wo_some, wo_none, wo_if, wo_map, wo_bind, wp_of, ws_nx, ws_rt, ws_rf, ws_bk, ws_ct, ws_exc, ws_bad, wp_name, wp_c, wp_m2, wp_m1, wp_test, wp_truthN, wp_lenN, wp_ixN, wp_and, wp_or, wp_notT, wp_andV, wp_orV, wp_notV, wp_if, wp_ifF, wp_args0, wp_args1, wp_tup, wp_frz, wp_callB, wp_callF, wp_cat, wp_repL, wp_chain, wp_cut, wp_part0, wp_part1, wp_call, wp_callFr, wp_callBx, wp_popN, wp_index, wp_yes, wp_seqI, wp_range, wp_revI, wp_zip, ws_seq, ws_nil, ws_pass, ws_ret, ws_retF, ws_retN, ws_set, ws_setF, ws_if, ws_asg, ws_par, ws_par3, ws_parF, ws_aug, ws_append, ws_setIx, wpP_runP, wpF_runF, wpB_runB, wpP_ok, wpF_ok, wpP_exc, wpB_ok, ws_for', ws_forNil, wp_comp, wpC_nil, ev_g0, ev_gs, ev_gn, ev_s0, ev_ss, ev_m0, ev_m1, ev_a0, ev_a1, ev_r0, ev_rs, ev_l0, ev_l1, ev_d0, ev_d1, ev_ob, ev_om, ev_it, ev_if, ev_gl, ev_gl1, ev_dl, ev_dl1, ev_gla, ev_dla, add_ii, addI_ii, sub_ii, add_ll, add_tt, mod_ii, div_ii, pow_ii, mul_ii, mul_li, lt_ii, le_ii, gt_ii, ge_ii, neg_i, eq_ii, ne_ii, eq_bb, ne_bb, is_bb, isnot_bb, is_n, is_in, is_sn, is_bn, is_tn, is_ln, isnot_n, isnot_in, truth_b, truth_i, truth_l, truth_t, len_l, len_t, len_s, ix_l, ix_t, ix_s, seq_l, seq_t, seq_s, tuple_l, tuple_t, list_l, list_t, list_s, on1_p, abs_i, int_b, int_i, max_ii, min_ii, rev_l, rev_t, zip_ll, zip_tt, cat_ll, range_1, range_2, slot_0, slot_s, isi_int_i, isi_int_b, isi_bool_i, isi_bool_b, isi_tup_t, isi_tup_l, isi_lst_l, isi_lst_t, isi_str_s, isi_str_i, isi_str_b, isi_str_n, isi_lt_l, isi_lt_t, isi_lt_i, isi_lt_b, isi_lt_s, isi_lt_n, at_0, at_1, at_2, at_3, at_last, mg_name, mg_tup, mg_nil, mg_cons, own0_own, startR_eq, wipe_0, wipe_1, back_0, back_1, ixN_3_0, ixN_3_1, ixN_3_2, szl, sze, wp_dict, eq_ww, ix_tv0, ix_tv1, tv_mk, mg_tv, tuple_tv, in_ww, isi_tv, len_tv, f_is_turns, c_is_turns]
  refine wpC_inv (fun i acc ρ => ρ = [.val (.lst (tvs ts)), .emp] ∧ acc = (ts.take i).map fun t => .bl (decide (1 ≤ t.2))) ⟨rfl, rfl⟩ ?_ ?_
  · rintro i p acc ρ e ⟨rfl, rfl⟩
    obtain ⟨t, et, rfl⟩ := tvs_get ts i p e
    simp -implicitDefEqProofs only [Nat.reduceSub, Nat.reduceAdd, Int.reduceLT, Int.reduceLE, Int.reduceGT, Int.reduceGE, Int.reduceEq, Int.reducePow, Nat.reducePow, Nat.reduceMul, Int.reduceNeg, Int.reduceToNat, Int.reduceAbs, Int.reduceMod, Int.reduceDiv, Int.reduceAdd, Int.reduceSub, Int.reduceMul, Nat.reduceLT, Nat.reduceLeDiff, Nat.reduceEqDiff, decide_eq_true_eq, decide_true, decide_false, and_true, true_and, true_or, or_true, false_or, or_false, and_false, false_and, if_false, ite_true, ite_false, PV.int.injEq, PV.bl.injEq, exists_eq_left', Bool.not_true, Bool.not_false, Bool.false_eq_true, not_true_eq_false, not_false_eq_true, reduceCtorEq, Option.some.injEq, wp_ok, wp_exc, wp_bad, wo_some, wo_none, wo_if, wo_map, wo_bind, wp_of, ws_nx, ws_rt, ws_rf, ws_bk, ws_ct, ws_exc, ws_bad, wp_name, wp_c, wp_m2, wp_m1, wp_test, wp_truthN, wp_lenN, wp_ixN, wp_and, wp_or, wp_notT, wp_andV, wp_orV, wp_notV, wp_if, wp_ifF, wp_args0, wp_args1, wp_tup, wp_frz, wp_callB, wp_callF, wp_cat, wp_repL, wp_chain, wp_cut, wp_part0, wp_part1, wp_call, wp_callFr, wp_callBx, wp_popN, wp_index, wp_yes, wp_seqI, wp_range, wp_revI, wp_zip, ws_seq, ws_nil, ws_pass, ws_ret, ws_retF, ws_retN, ws_set, ws_setF, ws_if, ws_asg, ws_par, ws_par3, ws_parF, ws_aug, ws_append, ws_setIx, wpP_runP, wpF_runF, wpB_runB, wpP_ok, wpF_ok, wpP_exc, wpB_ok, ws_for', ws_forNil, wp_comp, wpC_nil, ev_g0, ev_gs, ev_gn, ev_s0, ev_ss, ev_m0, ev_m1, ev_a0, ev_a1, ev_r0, ev_rs, ev_l0, ev_l1, ev_d0, ev_d1, ev_ob, ev_om, ev_it, ev_if, ev_gl, ev_gl1, ev_dl, ev_dl1, ev_gla, ev_dla, add_ii, addI_ii, sub_ii, add_ll, add_tt, mod_ii, div_ii, pow_ii, mul_ii, mul_li, lt_ii, le_ii, gt_ii, ge_ii, neg_i, eq_ii, ne_ii, eq_bb, ne_bb, is_bb, isnot_bb, is_n, is_in, is_sn, is_bn, is_tn, is_ln, isnot_n, isnot_in, truth_b, truth_i, truth_l, truth_t, len_l, len_t, len_s, ix_l, ix_t, ix_s, seq_l, seq_t, seq_s, tuple_l, tuple_t, list_l, list_t, list_s, on1_p, abs_i, int_b, int_i, max_ii, min_ii, rev_l, rev_t, zip_ll, zip_tt, cat_ll, range_1, range_2, slot_0, slot_s, isi_int_i, isi_int_b, isi_bool_i, isi_bool_b, isi_tup_t, isi_tup_l, isi_lst_l, isi_lst_t, isi_str_s, isi_str_i, isi_str_b, isi_str_n, isi_lt_l, isi_lt_t, isi_lt_i, isi_lt_b, isi_lt_s, isi_lt_n, at_0, at_1, at_2, at_3, at_last, mg_name, mg_tup, mg_nil, mg_cons, own0_own, startR_eq, wipe_0, wipe_1, back_0, back_1, ixN_3_0, ixN_3_1, ixN_3_2, szl, sze, wp_dict, eq_ww, ix_tv0, ix_tv1, tv_mk, mg_tv, tuple_tv, in_ww, isi_tv, len_tv, isturn_ok]
    refine ⟨sz _ (by simp; omega), ?_⟩
    rw [take_snoc et]; simp
  · rintro acc ρ ⟨rfl, rfl⟩
    simp -implicitDefEqProofs only [Nat.reduceSub, Nat.reduceAdd, Int.reduceLT, Int.reduceLE, Int.reduceGT, Int.reduceGE, Int.reduceEq, Int.reducePow, Nat.reducePow, Nat.reduceMul, Int.reduceNeg, Int.reduceToNat, Int.reduceAbs, Int.reduceMod, Int.reduceDiv, Int.reduceAdd, Int.reduceSub, Int.reduceMul, Nat.reduceLT, Nat.reduceLeDiff, Nat.reduceEqDiff, decide_eq_true_eq, decide_true, decide_false, and_true, true_and, true_or, or_true, false_or, or_false, and_false, false_and, if_false, ite_true, ite_false, PV.int.injEq, PV.bl.injEq, exists_eq_left', Bool.not_true, Bool.not_false, Bool.false_eq_true, not_true_eq_false, not_false_eq_true, reduceCtorEq, Option.some.injEq, wp_ok, wp_exc, wp_bad, wo_some, wo_none, wo_if, wo_map, wo_bind, wp_of, ws_nx, ws_rt, ws_rf, ws_bk, ws_ct, ws_exc, ws_bad, wp_name, wp_c, wp_m2, wp_m1, wp_test, wp_truthN, wp_lenN, wp_ixN, wp_and, wp_or, wp_notT, wp_andV, wp_orV, wp_notV, wp_if, wp_ifF, wp_args0, wp_args1, wp_tup, wp_frz, wp_callB, wp_callF, wp_cat, wp_repL, wp_chain, wp_cut, wp_part0, wp_part1, wp_call, wp_callFr, wp_callBx, wp_popN, wp_index, wp_yes, wp_seqI, wp_range, wp_revI, wp_zip, ws_seq, ws_nil, ws_pass, ws_ret, ws_retF, ws_retN, ws_set, ws_setF, ws_if, ws_asg, ws_par, ws_par3, ws_parF, ws_aug, ws_append, ws_setIx, wpP_runP, wpF_runF, wpB_runB, wpP_ok, wpF_ok, wpP_exc, wpB_ok, ws_for', ws_forNil, wp_comp, wpC_nil, ev_g0, ev_gs, ev_gn, ev_s0, ev_ss, ev_m0, ev_m1, ev_a0, ev_a1, ev_r0, ev_rs, ev_l0, ev_l1, ev_d0, ev_d1, ev_ob, ev_om, ev_it, ev_if, ev_gl, ev_gl1, ev_dl, ev_dl1, ev_gla, ev_dla, add_ii, addI_ii, sub_ii, add_ll, add_tt, mod_ii, div_ii, pow_ii, mul_ii, mul_li, lt_ii, le_ii, gt_ii, ge_ii, neg_i, eq_ii, ne_ii, eq_bb, ne_bb, is_bb, isnot_bb, is_n, is_in, is_sn, is_bn, is_tn, is_ln, isnot_n, isnot_in, truth_b, truth_i, truth_l, truth_t, len_l, len_t, len_s, ix_l, ix_t, ix_s, seq_l, seq_t, seq_s, tuple_l, tuple_t, list_l, list_t, list_s, on1_p, abs_i, int_b, int_i, max_ii, min_ii, rev_l, rev_t, zip_ll, zip_tt, cat_ll, range_1, range_2, slot_0, slot_s, isi_int_i, isi_int_b, isi_bool_i, isi_bool_b, isi_tup_t, isi_tup_l, isi_lst_l, isi_lst_t, isi_str_s, isi_str_i, isi_str_b, isi_str_n, isi_lt_l, isi_lt_t, isi_lt_i, isi_lt_b, isi_lt_s, isi_lt_n, at_0, at_1, at_2, at_3, at_last, mg_name, mg_tup, mg_nil, mg_cons, own0_own, startR_eq, wipe_0, wipe_1, back_0, back_1, ixN_3_0, ixN_3_1, ixN_3_2, szl, sze, wp_dict, eq_ww, ix_tv0, ix_tv1, tv_mk, mg_tv, tuple_tv, in_ww, isi_tv, len_tv, pvAll, bls_map (fun t : T => decide (1 ≤ t.2))]
    simp [tvs]
theorem eqv_tvs : ∀ a b : List T, PyData.eqvAll (pvDs (tvs a)) (pvDs (tvs b)) = decide (a = b)
  | [], [] => rfl
  | [], y :: b => rfl
  | x :: a, [] => rfl
  | (w, m) :: a, (v, n) :: b => by
    have ih := eqv_tvs a b
    simp only [tvs, List.map_cons, pvDs, tv, pvD, PyData.eqvAll, PyData.eqv] at ih ⊢
    rw [ih, wy_eq]
    rw [Bool.eq_iff_iff]
    simp
theorem okD_tvs (n : Nat) (a : List T) : okD (n + 3) (.lst (tvs a)) = true := by
  simp [okD, tvs, tv, wy_ok]
theorem eq_tvs (a b : List T) : pvEq (.lst (tvs a)) (.lst (tvs b)) = some (.bl (decide (a = b))) := by
  unfold pvEq
  rw [okD_tvs 9 a, okD_tvs 9 b]
  simp only [pvD, PyData.eqv, eqv_tvs]
  rfl
theorem isfg_ok (ts : List T) (hl : ts.length ≤ 900) (h1 : ∀ t ∈ ts, 1 ≤ t.2) : f_is_forgotten [.lst (tvs ts)] = .ok (.bl (decide (fg ts = ts))) := by
  have h : (ts.all fun t => decide (1 ≤ t.2)) = true := by simpa using h1
  rw [wpP_eq]
  simp -implicitDefEqProofs only [Nat.reduceSub, Nat.reduceAdd, Int.reduceLT, Int.reduceLE, Int.reduceGT, Int.reduceGE, Int.reduceEq, Int.reducePow, Nat.reducePow, Nat.reduceMul, Int.reduceNeg, Int.reduceToNat, Int.reduceAbs, Int.reduceMod, Int.reduceDiv, Int.reduceAdd, Int.reduceSub, Int.reduceMul, Nat.reduceLT, Nat.reduceLeDiff, Nat.reduceEqDiff, decide_eq_true_eq, decide_true, decide_false, and_true, true_and, true_or, or_true, false_or, or_false, and_false, false_and, if_false, ite_true, ite_false, PV.int.injEq, PV.bl.injEq, exists_eq_left', Bool.not_true, Bool.not_false, Bool.false_eq_true, not_true_eq_false, not_false_eq_true, reduceCtorEq, Option.some.injEq, wp_ok, wp_exc, wp_bad, wo_some, wo_none, wo_if, wo_map, wo_bind, wp_of, ws_nx, ws_rt, ws_rf, ws_bk, ws_ct, ws_exc, ws_bad, wp_name, wp_c, wp_m2, wp_m1, wp_test, wp_truthN, wp_lenN, wp_ixN, wp_and, wp_or, wp_notT, wp_andV, wp_orV, wp_notV, wp_if, wp_ifF, wp_args0, wp_args1, wp_tup, wp_frz, wp_callB, wp_callF, wp_cat, wp_repL, wp_chain, wp_cut, wp_part0, wp_part1, wp_call, wp_callFr, wp_callBx, wp_popN, wp_index, wp_yes, wp_seqI, wp_range, wp_revI, wp_zip, ws_seq, ws_nil, ws_pass, ws_ret, ws_retF, ws_retN, ws_set, ws_setF, ws_if, ws_asg, ws_par, ws_par3, ws_parF, ws_aug, ws_append, ws_setIx, wpP_runP, wpF_runF, wpB_runB, wpP_ok, wpF_ok, wpP_exc, wpB_ok, ws_for', ws_forNil, wp_comp, wpC_nil, ev_g0, ev_gs, ev_gn, ev_s0, ev_ss, ev_m0, ev_m1, ev_a0, ev_a1, ev_r0, ev_rs, ev_l0, ev_l1, ev_d0, ev_d1, ev_ob, ev_om, ev_it, ev_if, ev_gl, ev_gl1, ev_dl, ev_dl1, ev_gla, ev_dla, add_ii, addI_ii, sub_ii, add_ll, add_tt, mod_ii, div_ii, pow_ii, mul_ii, mul_li, lt_ii, le_ii, gt_ii, ge_ii, neg_i, eq_ii, ne_ii, eq_bb, ne_bb, is_bb, isnot_bb, is_n, is_in, is_sn, is_bn, is_tn, is_ln, isnot_n, isnot_in, truth_b, truth_i, truth_l, truth_t, len_l, len_t, len_s, ix_l, ix_t, ix_s, seq_l, seq_t, seq_s, tuple_l, tuple_t, list_l, list_t, list_s, on1_p, abs_i, int_b, int_i, max_ii, min_ii, rev_l, rev_t, zip_ll, zip_tt, cat_ll, range_1, range_2, slot_0, slot_s, isi_int_i, isi_int_b, isi_bool_i, isi_bool_b, isi_tup_t, isi_tup_l, isi_lst_l, isi_lst_t, isi_str_s, isi_str_i, isi_str_b, isi_str_n, isi_lt_l, isi_lt_t, isi_lt_i, isi_lt_b, isi_lt_s, isi_lt_n, at_0, at_1, at_2, at_3, at_last, mg_name, mg_tup, mg_nil, mg_cons, own0_own, startR_eq, wipe_0, wipe_1, back_0, back_1, ixN_3_0, ixN_3_1, ixN_3_2, szl, sze, wp_dict, eq_ww, ix_tv0, ix_tv1, tv_mk, mg_tv, tuple_tv, in_ww, isi_tv, len_tv, eq_tvs, f_is_forgotten, c_is_forgotten, isturns_ok ts hl, h, fg_ok ts hl]
/-! so often -/
def soF : Nat → Nat → List T → List T → List T
  | 0, _, found, _ => found
  | n + 1, many, found, twice => if 0 < many then soF n (many / 2) (if many % 2 = 1 then fg (found ++ twice) else found) (if 0 < many / 2 then fg (twice ++ twice) else twice) else found
def so (ts : List T) (many : Nat) : List T := soF 60 many [] (fg ts)
/-- short all the way -/
def soS : Nat → Nat → List T → List T → Bool
  | 0, many, found, twice => decide (many = 0)
  | n + 1, many, found, twice => decide (found.length ≤ 200) && decide (twice.length ≤ 200) && if 0 < many then soS n (many / 2) (if many % 2 = 1 then fg (found ++ twice) else found) (if 0 < many / 2 then fg (twice ++ twice) else twice) else true
theorem tvs_app (a b : List T) : tvs a ++ tvs b = tvs (a ++ b) := by simp [tvs]
theorem so_loop (D : PR) : ∀ (n many : Nat) (found twice : List T) (x0 : Slot), soS n many found twice = true → (∀ m tw, D.nx [x0, .val (.int m), .val (.lst (tvs (soF n many found twice))), .val (.lst (tvs tw))]) →
    WpS D (mWhile (mTest (m2 pvGt (mName 1) (mC (.int 0)))) (mSeq (mIfS (mTest (m2 pvEq (m2 pvMod (mName 1) (mC (.int 2))) (mC (.int 1)))) (mSet 2 (mCall f_forgotten [m2 pvAdd (mName 2) (mName 3)])) (mNil)) (mSeq (mAug 1 pvDiv (mC (.int 2))) (mIfS (mTest (m2 pvGt (mName 1) (mC (.int 0)))) (mSet 3 (mCall f_forgotten [m2 pvAdd (mName 3) (mName 3)])) (mNil)))) [x0, .val (.int (many : Nat)), .val (.lst (tvs found)), .val (.lst (tvs twice))])
  | 0, many, found, twice, x0, hs, hq => by
    have : many = 0 := by simpa [soS] using hs
    subst this
    rw [ws_whileEq]
    simp -implicitDefEqProofs only [Nat.reduceSub, Nat.reduceAdd, Int.reduceLT, Int.reduceLE, Int.reduceGT, Int.reduceGE, Int.reduceEq, Int.reducePow, Nat.reducePow, Nat.reduceMul, Int.reduceNeg, Int.reduceToNat, Int.reduceAbs, Int.reduceMod, Int.reduceDiv, Int.reduceAdd, Int.reduceSub, Int.reduceMul, Nat.reduceLT, Nat.reduceLeDiff, Nat.reduceEqDiff, decide_eq_true_eq, decide_true, decide_false, and_true, true_and, true_or, or_true, false_or, or_false, and_false, false_and, if_false, ite_true, ite_false, PV.int.injEq, PV.bl.injEq, exists_eq_left', Bool.not_true, Bool.not_false, Bool.false_eq_true, not_true_eq_false, not_false_eq_true, reduceCtorEq, Option.some.injEq, wp_ok, wp_exc, wp_bad, wo_some, wo_none, wo_if, wo_map, wo_bind, wp_of, ws_nx, ws_rt, ws_rf, ws_bk, ws_ct, ws_exc, ws_bad, wp_name, wp_c, wp_m2, wp_m1, wp_test, wp_truthN, wp_lenN, wp_ixN, wp_and, wp_or, wp_notT, wp_andV, wp_orV, wp_notV, wp_if, wp_ifF, wp_args0, wp_args1, wp_tup, wp_frz, wp_callB, wp_callF, wp_cat, wp_repL, wp_chain, wp_cut, wp_part0, wp_part1, wp_call, wp_callFr, wp_callBx, wp_popN, wp_index, wp_yes, wp_seqI, wp_range, wp_revI, wp_zip, ws_seq, ws_nil, ws_pass, ws_ret, ws_retF, ws_retN, ws_set, ws_setF, ws_if, ws_asg, ws_par, ws_par3, ws_parF, ws_aug, ws_append, ws_setIx, wpP_runP, wpF_runF, wpB_runB, wpP_ok, wpF_ok, wpP_exc, wpB_ok, ws_for', ws_forNil, wp_comp, wpC_nil, ev_g0, ev_gs, ev_gn, ev_s0, ev_ss, ev_m0, ev_m1, ev_a0, ev_a1, ev_r0, ev_rs, ev_l0, ev_l1, ev_d0, ev_d1, ev_ob, ev_om, ev_it, ev_if, ev_gl, ev_gl1, ev_dl, ev_dl1, ev_gla, ev_dla, add_ii, addI_ii, sub_ii, add_ll, add_tt, mod_ii, div_ii, pow_ii, mul_ii, mul_li, lt_ii, le_ii, gt_ii, ge_ii, neg_i, eq_ii, ne_ii, eq_bb, ne_bb, is_bb, isnot_bb, is_n, is_in, is_sn, is_bn, is_tn, is_ln, isnot_n, isnot_in, truth_b, truth_i, truth_l, truth_t, len_l, len_t, len_s, ix_l, ix_t, ix_s, seq_l, seq_t, seq_s, tuple_l, tuple_t, list_l, list_t, list_s, on1_p, abs_i, int_b, int_i, max_ii, min_ii, rev_l, rev_t, zip_ll, zip_tt, cat_ll, range_1, range_2, slot_0, slot_s, isi_int_i, isi_int_b, isi_bool_i, isi_bool_b, isi_tup_t, isi_tup_l, isi_lst_l, isi_lst_t, isi_str_s, isi_str_i, isi_str_b, isi_str_n, isi_lt_l, isi_lt_t, isi_lt_i, isi_lt_b, isi_lt_s, isi_lt_n, at_0, at_1, at_2, at_3, at_last, mg_name, mg_tup, mg_nil, mg_cons, own0_own, startR_eq, wipe_0, wipe_1, back_0, back_1, ixN_3_0, ixN_3_1, ixN_3_2, szl, sze, wp_dict, eq_ww, ix_tv0, ix_tv1, tv_mk, mg_tv, tuple_tv, in_ww, isi_tv, len_tv, eq_tvs, Int.ofNat_zero, Int.natCast_zero, Int.lt_irrefl]
    exact hq _ _
  | n + 1, many, found, twice, x0, hs, hq => by
    rw [ws_whileEq]
    simp only [soS, Bool.and_eq_true, decide_eq_true_eq] at hs
    obtain ⟨⟨l1, l2⟩, hs⟩ := hs
    rw [soF] at hq
    by_cases h : 0 < many
    · rw [if_pos h] at hs
      simp only [if_pos h] at hq
      have h' : ((0 : Int) < (many : Int)) = True := by simp; omega
      have hd : (many : Int) / 2 = ((many / 2 : Nat) : Int) := by omega
      have f1 : f_forgotten [.lst (tvs (found ++ twice))] = .ok (.lst (tvs (fg (found ++ twice)))) := fg_ok _ (by simp; omega)
      have f2 : f_forgotten [.lst (tvs (twice ++ twice))] = .ok (.lst (tvs (fg (twice ++ twice)))) := fg_ok _ (by simp; omega)
      have z1 : ((tvs found).length + (tvs twice).length ≤ sizeLine) = True := sze (by simp [tvs]; omega)
      have z2 : ((tvs twice).length + (tvs twice).length ≤ sizeLine) = True := sze (by simp [tvs]; omega)
      by_cases ho : many % 2 = 1
      · have ho' : ((many : Int) % 2 = 1) = True := by simp; omega
        simp only [if_pos ho] at hs hq
        by_cases h2 : 0 < many / 2
        · have h2' : ((0 : Int) < ((many / 2 : Nat) : Int)) = True := by simp; omega
          simp only [if_pos h2] at hs hq
          simp -implicitDefEqProofs only [Nat.reduceSub, Nat.reduceAdd, Int.reduceLT, Int.reduceLE, Int.reduceGT, Int.reduceGE, Int.reduceEq, Int.reducePow, Nat.reducePow, Nat.reduceMul, Int.reduceNeg, Int.reduceToNat, Int.reduceAbs, Int.reduceMod, Int.reduceDiv, Int.reduceAdd, Int.reduceSub, Int.reduceMul, Nat.reduceLT, Nat.reduceLeDiff, Nat.reduceEqDiff, decide_eq_true_eq, decide_true, decide_false, and_true, true_and, true_or, or_true, false_or, or_false, and_false, false_and, if_false, ite_true, ite_false, PV.int.injEq, PV.bl.injEq, exists_eq_left', Bool.not_true, Bool.not_false, Bool.false_eq_true, not_true_eq_false, not_false_eq_true, reduceCtorEq, Option.some.injEq, wp_ok, wp_exc, wp_bad, wo_some, wo_none, wo_if, wo_map, wo_bind, wp_of, ws_nx, ws_rt, ws_rf, ws_bk, ws_ct, ws_exc, ws_bad, wp_name, wp_c, wp_m2, wp_m1, wp_test, wp_truthN, wp_lenN, wp_ixN, wp_and, wp_or, wp_notT, wp_andV, wp_orV, wp_notV, wp_if, wp_ifF, wp_args0, wp_args1, wp_tup, wp_frz, wp_callB, wp_callF, wp_cat, wp_repL, wp_chain, wp_cut, wp_part0, wp_part1, wp_call, wp_callFr, wp_callBx, wp_popN, wp_index, wp_yes, wp_seqI, wp_range, wp_revI, wp_zip, ws_seq, ws_nil, ws_pass, ws_ret, ws_retF, ws_retN, ws_set, ws_setF, ws_if, ws_asg, ws_par, ws_par3, ws_parF, ws_aug, ws_append, ws_setIx, wpP_runP, wpF_runF, wpB_runB, wpP_ok, wpF_ok, wpP_exc, wpB_ok, ws_for', ws_forNil, wp_comp, wpC_nil, ev_g0, ev_gs, ev_gn, ev_s0, ev_ss, ev_m0, ev_m1, ev_a0, ev_a1, ev_r0, ev_rs, ev_l0, ev_l1, ev_d0, ev_d1, ev_ob, ev_om, ev_it, ev_if, ev_gl, ev_gl1, ev_dl, ev_dl1, ev_gla, ev_dla, add_ii, addI_ii, sub_ii, add_ll, add_tt, mod_ii, div_ii, pow_ii, mul_ii, mul_li, lt_ii, le_ii, gt_ii, ge_ii, neg_i, eq_ii, ne_ii, eq_bb, ne_bb, is_bb, isnot_bb, is_n, is_in, is_sn, is_bn, is_tn, is_ln, isnot_n, isnot_in, truth_b, truth_i, truth_l, truth_t, len_l, len_t, len_s, ix_l, ix_t, ix_s, seq_l, seq_t, seq_s, tuple_l, tuple_t, list_l, list_t, list_s, on1_p, abs_i, int_b, int_i, max_ii, min_ii, rev_l, rev_t, zip_ll, zip_tt, cat_ll, range_1, range_2, slot_0, slot_s, isi_int_i, isi_int_b, isi_bool_i, isi_bool_b, isi_tup_t, isi_tup_l, isi_lst_l, isi_lst_t, isi_str_s, isi_str_i, isi_str_b, isi_str_n, isi_lt_l, isi_lt_t, isi_lt_i, isi_lt_b, isi_lt_s, isi_lt_n, at_0, at_1, at_2, at_3, at_last, mg_name, mg_tup, mg_nil, mg_cons, own0_own, startR_eq, wipe_0, wipe_1, back_0, back_1, ixN_3_0, ixN_3_1, ixN_3_2, szl, sze, wp_dict, eq_ww, ix_tv0, ix_tv1, tv_mk, mg_tv, tuple_tv, in_ww, isi_tv, len_tv, eq_tvs, h', ho', hd, h2', z1, z2, tvs_app, f1, f2]
          exact so_loop D n _ _ _ x0 hs hq
        · have h2' : ((0 : Int) < ((many / 2 : Nat) : Int)) = False := by simp; omega
          simp only [if_neg h2] at hs hq
          simp -implicitDefEqProofs only [Nat.reduceSub, Nat.reduceAdd, Int.reduceLT, Int.reduceLE, Int.reduceGT, Int.reduceGE, Int.reduceEq, Int.reducePow, Nat.reducePow, Nat.reduceMul, Int.reduceNeg, Int.reduceToNat, Int.reduceAbs, Int.reduceMod, Int.reduceDiv, Int.reduceAdd, Int.reduceSub, Int.reduceMul, Nat.reduceLT, Nat.reduceLeDiff, Nat.reduceEqDiff, decide_eq_true_eq, decide_true, decide_false, and_true, true_and, true_or, or_true, false_or, or_false, and_false, false_and, if_false, ite_true, ite_false, PV.int.injEq, PV.bl.injEq, exists_eq_left', Bool.not_true, Bool.not_false, Bool.false_eq_true, not_true_eq_false, not_false_eq_true, reduceCtorEq, Option.some.injEq, wp_ok, wp_exc, wp_bad, wo_some, wo_none, wo_if, wo_map, wo_bind, wp_of, ws_nx, ws_rt, ws_rf, ws_bk, ws_ct, ws_exc, ws_bad, wp_name, wp_c, wp_m2, wp_m1, wp_test, wp_truthN, wp_lenN, wp_ixN, wp_and, wp_or, wp_notT, wp_andV, wp_orV, wp_notV, wp_if, wp_ifF, wp_args0, wp_args1, wp_tup, wp_frz, wp_callB, wp_callF, wp_cat, wp_repL, wp_chain, wp_cut, wp_part0, wp_part1, wp_call, wp_callFr, wp_callBx, wp_popN, wp_index, wp_yes, wp_seqI, wp_range, wp_revI, wp_zip, ws_seq, ws_nil, ws_pass, ws_ret, ws_retF, ws_retN, ws_set, ws_setF, ws_if, ws_asg, ws_par, ws_par3, ws_parF, ws_aug, ws_append, ws_setIx, wpP_runP, wpF_runF, wpB_runB, wpP_ok, wpF_ok, wpP_exc, wpB_ok, ws_for', ws_forNil, wp_comp, wpC_nil, ev_g0, ev_gs, ev_gn, ev_s0, ev_ss, ev_m0, ev_m1, ev_a0, ev_a1, ev_r0, ev_rs, ev_l0, ev_l1, ev_d0, ev_d1, ev_ob, ev_om, ev_it, ev_if, ev_gl, ev_gl1, ev_dl, ev_dl1, ev_gla, ev_dla, add_ii, addI_ii, sub_ii, add_ll, add_tt, mod_ii, div_ii, pow_ii, mul_ii, mul_li, lt_ii, le_ii, gt_ii, ge_ii, neg_i, eq_ii, ne_ii, eq_bb, ne_bb, is_bb, isnot_bb, is_n, is_in, is_sn, is_bn, is_tn, is_ln, isnot_n, isnot_in, truth_b, truth_i, truth_l, truth_t, len_l, len_t, len_s, ix_l, ix_t, ix_s, seq_l, seq_t, seq_s, tuple_l, tuple_t, list_l, list_t, list_s, on1_p, abs_i, int_b, int_i, max_ii, min_ii, rev_l, rev_t, zip_ll, zip_tt, cat_ll, range_1, range_2, slot_0, slot_s, isi_int_i, isi_int_b, isi_bool_i, isi_bool_b, isi_tup_t, isi_tup_l, isi_lst_l, isi_lst_t, isi_str_s, isi_str_i, isi_str_b, isi_str_n, isi_lt_l, isi_lt_t, isi_lt_i, isi_lt_b, isi_lt_s, isi_lt_n, at_0, at_1, at_2, at_3, at_last, mg_name, mg_tup, mg_nil, mg_cons, own0_own, startR_eq, wipe_0, wipe_1, back_0, back_1, ixN_3_0, ixN_3_1, ixN_3_2, szl, sze, wp_dict, eq_ww, ix_tv0, ix_tv1, tv_mk, mg_tv, tuple_tv, in_ww, isi_tv, len_tv, eq_tvs, h', ho', hd, h2', z1, z2, tvs_app, f1, f2]
          exact so_loop D n _ _ _ x0 hs hq
      · have ho' : ((many : Int) % 2 = 1) = False := by simp; omega
        simp only [if_neg ho] at hs hq
        by_cases h2 : 0 < many / 2
        · have h2' : ((0 : Int) < ((many / 2 : Nat) : Int)) = True := by simp; omega
          simp only [if_pos h2] at hs hq
          simp -implicitDefEqProofs only [Nat.reduceSub, Nat.reduceAdd, Int.reduceLT, Int.reduceLE, Int.reduceGT, Int.reduceGE, Int.reduceEq, Int.reducePow, Nat.reducePow, Nat.reduceMul, Int.reduceNeg, Int.reduceToNat, Int.reduceAbs, Int.reduceMod, Int.reduceDiv, Int.reduceAdd, Int.reduceSub, Int.reduceMul, Nat.reduceLT, Nat.reduceLeDiff, Nat.reduceEqDiff, decide_eq_true_eq, decide_true, decide_false, and_true, true_and, true_or, or_true, false_or, or_false, and_false, false_and, if_false, ite_true, ite_false, PV.int.injEq, PV.bl.injEq, exists_eq_left', Bool.not_true, Bool.not_false, Bool.false_eq_true, not_true_eq_false, not_false_eq_true, reduceCtorEq, Option.some.injEq, wp_ok, wp_exc, wp_bad, wo_some, wo_none, wo_if, wo_map, wo_bind, wp_of, ws_nx, ws_rt, ws_rf, ws_bk, ws_ct, ws_exc, ws_bad, wp_name, wp_c, wp_m2, wp_m1, wp_test, wp_truthN, wp_lenN, wp_ixN, wp_and, wp_or, wp_notT, wp_andV, wp_orV, wp_notV, wp_if, wp_ifF, wp_args0, wp_args1, wp_tup, wp_frz, wp_callB, wp_callF, wp_cat, wp_repL, wp_chain, wp_cut, wp_part0, wp_part1, wp_call, wp_callFr, wp_callBx, wp_popN, wp_index, wp_yes, wp_seqI, wp_range, wp_revI, wp_zip, ws_seq, ws_nil, ws_pass, ws_ret, ws_retF, ws_retN, ws_set, ws_setF, ws_if, ws_asg, ws_par, ws_par3, ws_parF, ws_aug, ws_append, ws_setIx, wpP_runP, wpF_runF, wpB_runB, wpP_ok, wpF_ok, wpP_exc, wpB_ok, ws_for', ws_forNil, wp_comp, wpC_nil, ev_g0, ev_gs, ev_gn, ev_s0, ev_ss, ev_m0, ev_m1, ev_a0, ev_a1, ev_r0, ev_rs, ev_l0, ev_l1, ev_d0, ev_d1, ev_ob, ev_om, ev_it, ev_if, ev_gl, ev_gl1, ev_dl, ev_dl1, ev_gla, ev_dla, add_ii, addI_ii, sub_ii, add_ll, add_tt, mod_ii, div_ii, pow_ii, mul_ii, mul_li, lt_ii, le_ii, gt_ii, ge_ii, neg_i, eq_ii, ne_ii, eq_bb, ne_bb, is_bb, isnot_bb, is_n, is_in, is_sn, is_bn, is_tn, is_ln, isnot_n, isnot_in, truth_b, truth_i, truth_l, truth_t, len_l, len_t, len_s, ix_l, ix_t, ix_s, seq_l, seq_t, seq_s, tuple_l, tuple_t, list_l, list_t, list_s, on1_p, abs_i, int_b, int_i, max_ii, min_ii, rev_l, rev_t, zip_ll, zip_tt, cat_ll, range_1, range_2, slot_0, slot_s, isi_int_i, isi_int_b, isi_bool_i, isi_bool_b, isi_tup_t, isi_tup_l, isi_lst_l, isi_lst_t, isi_str_s, isi_str_i, isi_str_b, isi_str_n, isi_lt_l, isi_lt_t, isi_lt_i, isi_lt_b, isi_lt_s, isi_lt_n, at_0, at_1, at_2, at_3, at_last, mg_name, mg_tup, mg_nil, mg_cons, own0_own, startR_eq, wipe_0, wipe_1, back_0, back_1, ixN_3_0, ixN_3_1, ixN_3_2, szl, sze, wp_dict, eq_ww, ix_tv0, ix_tv1, tv_mk, mg_tv, tuple_tv, in_ww, isi_tv, len_tv, eq_tvs, h', ho', hd, h2', z1, z2, tvs_app, f1, f2]
          exact so_loop D n _ _ _ x0 hs hq
        · have h2' : ((0 : Int) < ((many / 2 : Nat) : Int)) = False := by simp; omega
          simp only [if_neg h2] at hs hq
          simp -implicitDefEqProofs only [Nat.reduceSub, Nat.reduceAdd, Int.reduceLT, Int.reduceLE, Int.reduceGT, Int.reduceGE, Int.reduceEq, Int.reducePow, Nat.reducePow, Nat.reduceMul, Int.reduceNeg, Int.reduceToNat, Int.reduceAbs, Int.reduceMod, Int.reduceDiv, Int.reduceAdd, Int.reduceSub, Int.reduceMul, Nat.reduceLT, Nat.reduceLeDiff, Nat.reduceEqDiff, decide_eq_true_eq, decide_true, decide_false, and_true, true_and, true_or, or_true, false_or, or_false, and_false, false_and, if_false, ite_true, ite_false, PV.int.injEq, PV.bl.injEq, exists_eq_left', Bool.not_true, Bool.not_false, Bool.false_eq_true, not_true_eq_false, not_false_eq_true, reduceCtorEq, Option.some.injEq, wp_ok, wp_exc, wp_bad, wo_some, wo_none, wo_if, wo_map, wo_bind, wp_of, ws_nx, ws_rt, ws_rf, ws_bk, ws_ct, ws_exc, ws_bad, wp_name, wp_c, wp_m2, wp_m1, wp_test, wp_truthN, wp_lenN, wp_ixN, wp_and, wp_or, wp_notT, wp_andV, wp_orV, wp_notV, wp_if, wp_ifF, wp_args0, wp_args1, wp_tup, wp_frz, wp_callB, wp_callF, wp_cat, wp_repL, wp_chain, wp_cut, wp_part0, wp_part1, wp_call, wp_callFr, wp_callBx, wp_popN, wp_index, wp_yes, wp_seqI, wp_range, wp_revI, wp_zip, ws_seq, ws_nil, ws_pass, ws_ret, ws_retF, ws_retN, ws_set, ws_setF, ws_if, ws_asg, ws_par, ws_par3, ws_parF, ws_aug, ws_append, ws_setIx, wpP_runP, wpF_runF, wpB_runB, wpP_ok, wpF_ok, wpP_exc, wpB_ok, ws_for', ws_forNil, wp_comp, wpC_nil, ev_g0, ev_gs, ev_gn, ev_s0, ev_ss, ev_m0, ev_m1, ev_a0, ev_a1, ev_r0, ev_rs, ev_l0, ev_l1, ev_d0, ev_d1, ev_ob, ev_om, ev_it, ev_if, ev_gl, ev_gl1, ev_dl, ev_dl1, ev_gla, ev_dla, add_ii, addI_ii, sub_ii, add_ll, add_tt, mod_ii, div_ii, pow_ii, mul_ii, mul_li, lt_ii, le_ii, gt_ii, ge_ii, neg_i, eq_ii, ne_ii, eq_bb, ne_bb, is_bb, isnot_bb, is_n, is_in, is_sn, is_bn, is_tn, is_ln, isnot_n, isnot_in, truth_b, truth_i, truth_l, truth_t, len_l, len_t, len_s, ix_l, ix_t, ix_s, seq_l, seq_t, seq_s, tuple_l, tuple_t, list_l, list_t, list_s, on1_p, abs_i, int_b, int_i, max_ii, min_ii, rev_l, rev_t, zip_ll, zip_tt, cat_ll, range_1, range_2, slot_0, slot_s, isi_int_i, isi_int_b, isi_bool_i, isi_bool_b, isi_tup_t, isi_tup_l, isi_lst_l, isi_lst_t, isi_str_s, isi_str_i, isi_str_b, isi_str_n, isi_lt_l, isi_lt_t, isi_lt_i, isi_lt_b, isi_lt_s, isi_lt_n, at_0, at_1, at_2, at_3, at_last, mg_name, mg_tup, mg_nil, mg_cons, own0_own, startR_eq, wipe_0, wipe_1, back_0, back_1, ixN_3_0, ixN_3_1, ixN_3_2, szl, sze, wp_dict, eq_ww, ix_tv0, ix_tv1, tv_mk, mg_tv, tuple_tv, in_ww, isi_tv, len_tv, eq_tvs, h', ho', hd, h2', z1, z2, tvs_app, f1, f2]
          exact so_loop D n _ _ _ x0 hs hq
    · have h' : ((0 : Int) < (many : Int)) = False := by simp; omega
      simp only [if_neg h] at hq
      simp -implicitDefEqProofs only [Nat.reduceSub, Nat.reduceAdd, Int.reduceLT, Int.reduceLE, Int.reduceGT, Int.reduceGE, Int.reduceEq, Int.reducePow, Nat.reducePow, Nat.reduceMul, Int.reduceNeg, Int.reduceToNat, Int.reduceAbs, Int.reduceMod, Int.reduceDiv, Int.reduceAdd, Int.reduceSub, Int.reduceMul, Nat.reduceLT, Nat.reduceLeDiff, Nat.reduceEqDiff, decide_eq_true_eq, decide_true, decide_false, and_true, true_and, true_or, or_true, false_or, or_false, and_false, false_and, if_false, ite_true, ite_false, PV.int.injEq, PV.bl.injEq, exists_eq_left', Bool.not_true, Bool.not_false, Bool.false_eq_true, not_true_eq_false, not_false_eq_true, reduceCtorEq, Option.some.injEq, wp_ok, wp_exc, wp_bad, wo_some, wo_none, wo_if, wo_map, wo_bind, wp_of, ws_nx, ws_rt, ws_rf, ws_bk, ws_ct, ws_exc, ws_bad, wp_name, wp_c, wp_m2, wp_m1, wp_test, wp_truthN, wp_lenN, wp_ixN, wp_and, wp_or, wp_notT, wp_andV, wp_orV, wp_notV, wp_if, wp_ifF, wp_args0, wp_args1, wp_tup, wp_frz, wp_callB, wp_callF, wp_cat, wp_repL, wp_chain, wp_cut, wp_part0, wp_part1, wp_call, wp_callFr, wp_callBx, wp_popN, wp_index, wp_yes, wp_seqI, wp_range, wp_revI, wp_zip, ws_seq, ws_nil, ws_pass, ws_ret, ws_retF, ws_retN, ws_set, ws_setF, ws_if, ws_asg, ws_par, ws_par3, ws_parF, ws_aug, ws_append, ws_setIx, wpP_runP, wpF_runF, wpB_runB, wpP_ok, wpF_ok, wpP_exc, wpB_ok, ws_for', ws_forNil, wp_comp, wpC_nil, ev_g0, ev_gs, ev_gn, ev_s0, ev_ss, ev_m0, ev_m1, ev_a0, ev_a1, ev_r0, ev_rs, ev_l0, ev_l1, ev_d0, ev_d1, ev_ob, ev_om, ev_it, ev_if, ev_gl, ev_gl1, ev_dl, ev_dl1, ev_gla, ev_dla, add_ii, addI_ii, sub_ii, add_ll, add_tt, mod_ii, div_ii, pow_ii, mul_ii, mul_li, lt_ii, le_ii, gt_ii, ge_ii, neg_i, eq_ii, ne_ii, eq_bb, ne_bb, is_bb, isnot_bb, is_n, is_in, is_sn, is_bn, is_tn, is_ln, isnot_n, isnot_in, truth_b, truth_i, truth_l, truth_t, len_l, len_t, len_s, ix_l, ix_t, ix_s, seq_l, seq_t, seq_s, tuple_l, tuple_t, list_l, list_t, list_s, on1_p, abs_i, int_b, int_i, max_ii, min_ii, rev_l, rev_t, zip_ll, zip_tt, cat_ll, range_1, range_2, slot_0, slot_s, isi_int_i, isi_int_b, isi_bool_i, isi_bool_b, isi_tup_t, isi_tup_l, isi_lst_l, isi_lst_t, isi_str_s, isi_str_i, isi_str_b, isi_str_n, isi_lt_l, isi_lt_t, isi_lt_i, isi_lt_b, isi_lt_s, isi_lt_n, at_0, at_1, at_2, at_3, at_last, mg_name, mg_tup, mg_nil, mg_cons, own0_own, startR_eq, wipe_0, wipe_1, back_0, back_1, ixN_3_0, ixN_3_1, ixN_3_2, szl, sze, wp_dict, eq_ww, ix_tv0, ix_tv1, tv_mk, mg_tv, tuple_tv, in_ww, isi_tv, len_tv, eq_tvs, h']
      exact hq _ _
theorem so_ok (ts : List T) (many : Nat) (hl : ts.length ≤ 900) (hs : soS 60 many [] (fg ts) = true) : f_so_often [.lst (tvs ts), .int many] = .ok (.lst (tvs (so ts many))) := by
  rw [wpP_eq]
  simp -implicitDefEqProofs only [Nat.reduceSub, Nat.reduceAdd, Int.reduceLT, Int.reduceLE, Int.reduceGT, Int.reduceGE, Int.reduceEq, Int.reducePow, Nat.reducePow, Nat.reduceMul, Int.reduceNeg, Int.reduceToNat, Int.reduceAbs, Int.reduceMod, Int.reduceDiv, Int.reduceAdd, Int.reduceSub, Int.reduceMul, Nat.reduceLT, Nat.reduceLeDiff, Nat.reduceEqDiff, decide_eq_true_eq, decide_true, decide_false, and_true, true_and, true_or, or_true, false_or, or_false, and_false, false_and, if_false, ite_true, ite_false, PV.int.injEq, PV.bl.injEq, exists_eq_left', Bool.not_true, Bool.not_false, Bool.false_eq_true, not_true_eq_false, not_false_eq_true, reduceCtorEq, Option.some.injEq, wp_ok, wp_exc, wp_bad, wo_some, wo_none, wo_if, wo_map, wo_bind, wp_of, ws_nx, ws_rt, ws_rf, ws_bk, ws_ct, ws_exc, ws_bad, wp_name, wp_c, wp_m2, wp_m1, wp_test, wp_truthN, wp_lenN, wp_ixN, wp_and, wp_or, wp_notT, wp_andV, wp_orV, wp_notV, wp_if, wp_ifF, wp_args0, wp_args1, wp_tup, wp_frz, wp_callB, wp_callF, wp_cat, wp_repL, wp_chain, wp_cut, wp_part0, wp_part1, wp_call, wp_callFr, wp_callBx, wp_popN, wp_index, wp_yes, wp_seqI, wp_range, wp_revI, wp_zip, ws_seq, ws_nil, ws_pass, ws_ret, ws_retF, ws_retN, ws_set, ws_setF, ws_if, ws_asg, ws_par, ws_par3, ws_parF, ws_aug, ws_append, ws_setIx, wpP_runP, wpF_runF, wpB_runB, wpP_ok, wpF_ok, wpP_exc, wpB_ok, ws_for', ws_forNil, wp_comp, wpC_nil, ev_g0, ev_gs, ev_gn, ev_s0, ev_ss, ev_m0, ev_m1, ev_a0, ev_a1, ev_r0, ev_rs, ev_l0, ev_l1, ev_d0, ev_d1, ev_ob, ev_om, ev_it, ev_if, ev_gl, ev_gl1, ev_dl, ev_dl1, ev_gla, ev_dla, add_ii, addI_ii, sub_ii, add_ll, add_tt, mod_ii, div_ii, pow_ii, mul_ii, mul_li, lt_ii, le_ii, gt_ii, ge_ii, neg_i, eq_ii, ne_ii, eq_bb, ne_bb, is_bb, isnot_bb, is_n, is_in, is_sn, is_bn, is_tn, is_ln, isnot_n, isnot_in, truth_b, truth_i, truth_l, truth_t, len_l, len_t, len_s, ix_l, ix_t, ix_s, seq_l, seq_t, seq_s, tuple_l, tuple_t, list_l, list_t, list_s, on1_p, abs_i, int_b, int_i, max_ii, min_ii, rev_l, rev_t, zip_ll, zip_tt, cat_ll, range_1, range_2, slot_0, slot_s, isi_int_i, isi_int_b, isi_bool_i, isi_bool_b, isi_tup_t, isi_tup_l, isi_lst_l, isi_lst_t, isi_str_s, isi_str_i, isi_str_b, isi_str_n, isi_lt_l, isi_lt_t, isi_lt_i, isi_lt_b, isi_lt_s, isi_lt_n, at_0, at_1, at_2, at_3, at_last, mg_name, mg_tup, mg_nil, mg_cons, own0_own, startR_eq, wipe_0, wipe_1, back_0, back_1, ixN_3_0, ixN_3_1, ixN_3_2, szl, sze, wp_dict, eq_ww, ix_tv0, ix_tv1, tv_mk, mg_tv, tuple_tv, in_ww, isi_tv, len_tv, eq_tvs, f_so_often, c_so_often, fg_ok ts hl]
  refine so_loop _ 60 many [] (fg ts) _ hs fun m tw => ?_
  simp -implicitDefEqProofs only [Nat.reduceSub, Nat.reduceAdd, Int.reduceLT, Int.reduceLE, Int.reduceGT, Int.reduceGE, Int.reduceEq, Int.reducePow, Nat.reducePow, Nat.reduceMul, Int.reduceNeg, Int.reduceToNat, Int.reduceAbs, Int.reduceMod, Int.reduceDiv, Int.reduceAdd, Int.reduceSub, Int.reduceMul, Nat.reduceLT, Nat.reduceLeDiff, Nat.reduceEqDiff, decide_eq_true_eq, decide_true, decide_false, and_true, true_and, true_or, or_true, false_or, or_false, and_false, false_and, if_false, ite_true, ite_false, PV.int.injEq, PV.bl.injEq, exists_eq_left', Bool.not_true, Bool.not_false, Bool.false_eq_true, not_true_eq_false, not_false_eq_true, reduceCtorEq, Option.some.injEq, wp_ok, wp_exc, wp_bad, wo_some, wo_none, wo_if, wo_map, wo_bind, wp_of, ws_nx, ws_rt, ws_rf, ws_bk, ws_ct, ws_exc, ws_bad, wp_name, wp_c, wp_m2, wp_m1, wp_test, wp_truthN, wp_lenN, wp_ixN, wp_and, wp_or, wp_notT, wp_andV, wp_orV, wp_notV, wp_if, wp_ifF, wp_args0, wp_args1, wp_tup, wp_frz, wp_callB, wp_callF, wp_cat, wp_repL, wp_chain, wp_cut, wp_part0, wp_part1, wp_call, wp_callFr, wp_callBx, wp_popN, wp_index, wp_yes, wp_seqI, wp_range, wp_revI, wp_zip, ws_seq, ws_nil, ws_pass, ws_ret, ws_retF, ws_retN, ws_set, ws_setF, ws_if, ws_asg, ws_par, ws_par3, ws_parF, ws_aug, ws_append, ws_setIx, wpP_runP, wpF_runF, wpB_runB, wpP_ok, wpF_ok, wpP_exc, wpB_ok, ws_for', ws_forNil, wp_comp, wpC_nil, ev_g0, ev_gs, ev_gn, ev_s0, ev_ss, ev_m0, ev_m1, ev_a0, ev_a1, ev_r0, ev_rs, ev_l0, ev_l1, ev_d0, ev_d1, ev_ob, ev_om, ev_it, ev_if, ev_gl, ev_gl1, ev_dl, ev_dl1, ev_gla, ev_dla, add_ii, addI_ii, sub_ii, add_ll, add_tt, mod_ii, div_ii, pow_ii, mul_ii, mul_li, lt_ii, le_ii, gt_ii, ge_ii, neg_i, eq_ii, ne_ii, eq_bb, ne_bb, is_bb, isnot_bb, is_n, is_in, is_sn, is_bn, is_tn, is_ln, isnot_n, isnot_in, truth_b, truth_i, truth_l, truth_t, len_l, len_t, len_s, ix_l, ix_t, ix_s, seq_l, seq_t, seq_s, tuple_l, tuple_t, list_l, list_t, list_s, on1_p, abs_i, int_b, int_i, max_ii, min_ii, rev_l, rev_t, zip_ll, zip_tt, cat_ll, range_1, range_2, slot_0, slot_s, isi_int_i, isi_int_b, isi_bool_i, isi_bool_b, isi_tup_t, isi_tup_l, isi_lst_l, isi_lst_t, isi_str_s, isi_str_i, isi_str_b, isi_str_n, isi_lt_l, isi_lt_t, isi_lt_i, isi_lt_b, isi_lt_s, isi_lt_n, at_0, at_1, at_2, at_3, at_last, mg_name, mg_tup, mg_nil, mg_cons, own0_own, startR_eq, wipe_0, wipe_1, back_0, back_1, ixN_3_0, ixN_3_1, ixN_3_2, szl, sze, wp_dict, eq_ww, ix_tv0, ix_tv1, tv_mk, mg_tv, tuple_tv, in_ww, isi_tv, len_tv, eq_tvs]
  rfl
theorem soF_sc (k : Int) (hk : 0 < k) : ∀ (n many : Nat) (found twice : List T), soF n many (found.map (sc k)) (twice.map (sc k)) = (soF n many found twice).map (sc k)
  | 0, _, _, _ => rfl
  | n + 1, many, found, twice => by
    have ih := soF_sc k hk n
    by_cases h0 : 0 < many <;> by_cases h1 : many % 2 = 1 <;> by_cases h2 : 0 < many / 2 <;> simp only [soF, h0, h1, h2, if_true, if_false, ← List.map_append, fg_sc k hk, ih]
theorem soS_sc (k : Int) (hk : 0 < k) : ∀ (n many : Nat) (found twice : List T), soS n many (found.map (sc k)) (twice.map (sc k)) = soS n many found twice
  | 0, _, _, _ => rfl
  | n + 1, many, found, twice => by
    have ih := soS_sc k hk n
    by_cases h0 : 0 < many <;> by_cases h1 : many % 2 = 1 <;> by_cases h2 : 0 < many / 2 <;> simp only [soS, h0, h1, h2, if_true, if_false, ← List.map_append, fg_sc k hk, ih, List.length_map]
/-! joined, places: so many times as long -/
theorem jnR_sc (k : Int) (l : List T) (t : T) : jnR (l.map (sc k)) (sc k t) = (jnR l t).map (sc k) := by
  cases l with
  | nil => rfl
  | cons a r =>
    by_cases h : a.1 = t.1
    · simp [jnR, sc, h, Int.add_mul]
    · simp [jnR, sc, h]
theorem jnF_sc (k : Int) (ts l : List T) : (ts.map (sc k)).foldl jnR (l.map (sc k)) = (ts.foldl jnR l).map (sc k) := by
  induction ts generalizing l with
  | nil => rfl
  | cons t ts ih => simp only [List.map_cons, List.foldl_cons]; rw [jnR_sc k, ih]
theorem jn_sc (k : Int) (ts : List T) : jn (ts.map (sc k)) = (jn ts).map (sc k) := by
  unfold jn
  have h := jnF_sc k ts []
  rw [List.map_reverse, ← h]; rfl
theorem gd_sc (k : Int) (l : List T) (i : Nat) : gd (l.map (sc k)) i = gd l i * k := by
  unfold gd
  simp only [List.getD, List.getElem?_map]
  cases l[i]? <;> simp [sc]
theorem cnd_sc (k : Int) (hk : 0 < k) (l : List T) (i : Nat) : cnd (l.map (sc k)) i = cnd l i := by
  unfold cnd
  rw [gd_sc, gd_sc, gd_sc]
  have e : (gd l (i + 1) * k ≤ min (gd l i * k) (gd l (i + 2) * k)) ↔ gd l (i + 1) ≤ min (gd l i) (gd l (i + 2)) := by
    rw [Int.le_min, Int.le_min, Int.mul_le_mul_right hk, Int.mul_le_mul_right hk]
  simp only [e]
theorem fgs_sc (k : Int) (hk : 0 < k) (l : List T) : fgs (l.map (sc k)) = fgs l := by
  unfold fgs
  rw [List.length_map]
  congr 1
  apply List.filter_congr
  intro i _
  exact cnd_sc k hk l i
theorem sc_inj (k : Int) (hk : 0 < k) (a b : List T) : a.map (sc k) = b.map (sc k) ↔ a = b := by
  refine ⟨fun h => ?_, fun h => by rw [h]⟩
  refine (List.map_inj_right ?_).mp h
  rintro ⟨x, m⟩ ⟨y, n⟩ e
  simp only [sc, Prod.mk.injEq] at e ⊢
  exact ⟨e.1, Int.eq_of_mul_eq_mul_right (by omega) e.2⟩
/-! turns by turns -/
def tl : List Int → Bool → List T
  | [], _ => []
  | n :: ns, w => (w, n) :: tl ns (!w)
def ixw (w : Bool) : Int := if w then 0 else 1
theorem tl_len (l : List Int) (w : Bool) : (tl l w).length = l.length := by
  induction l generalizing w with
  | nil => rfl
  | cons a l ih => simp [tl, ih]
theorem tl_snoc (l : List Int) (n : Int) (w : Bool) : tl (l ++ [n]) w = tl l w ++ [((if l.length % 2 = 0 then w else !w), n)] := by
  induction l generalizing w with
  | nil => rfl
  | cons a l ih =>
    simp only [List.cons_append, tl, ih, List.length_cons, List.cons.injEq, true_and, List.append_cancel_left_eq, Prod.mk.injEq, and_true]
    by_cases h : l.length % 2 = 0
    · rw [if_pos h, if_neg (by omega)]
    · rw [if_neg h, if_pos (by omega)]; simp
theorem ints_get {l : List Int} {i : Nat} {p : PV} (h : (l.map PV.int)[i]? = some p) : ∃ n, l[i]? = some n ∧ p = .int n := by
  rw [List.getElem?_map] at h
  cases e : l[i]? with
  | none => rw [e] at h; cases h
  | some t => rw [e] at h; cases h; exact ⟨t, rfl, rfl⟩
theorem index_w (w : Bool) : pvIndex [.str "forth", .str "back"] (.str (wy w)) = some (.int (ixw w)) := by
  have h1 : (okD 12 (.lst [.str "forth", .str "back"]) && okD 12 (.str (wy w))) = true := by cases w <;> decide +kernel
  have h2 : findIx (pvD (.str (wy w))) (pvDs [.str "forth", .str "back"]) 0 = some (if w then 0 else 1) := by cases w <;> decide +kernel
  unfold pvIndex; rw [if_pos h1, h2]; cases w <;> rfl
theorem at_w (w : Bool) : atI [PV.str "forth", .str "back"] (ixw w) = some (.str (wy w)) := by
  cases w <;> rfl
theorem ixw_not (w : Bool) : 1 - ixw w = ixw (!w) := by cases w <;> rfl
theorem told_ok (l : List Int) (k : Int) (w : Bool) (hl : l.length ≤ 900) (hk : -18446744073709551616 < k ∧ k < 18446744073709551616) : f__law_told [.lst (l.map .int), .int k, .str (wy w)] = .ok (.lst (tvs ((tl l w).map (sc k)))) := by
  rw [wpP_eq]
  simp -implicitDefEqProofs only [Nat.reduceSub, Nat.reduceAdd, Int.reduceLT, Int.reduceLE, Int.reduceGT, Int.reduceGE, Int.reduceEq, Int.reducePow, Nat.reducePow, Nat.reduceMul, Int.reduceNeg, Int.reduceToNat, Int.reduceAbs, Int.reduceMod, Int.reduceDiv, Int.reduceAdd, Int.reduceSub, Int.reduceMul, Nat.reduceLT, Nat.reduceLeDiff, Nat.reduceEqDiff, decide_eq_true_eq, decide_true, decide_false, and_true, true_and, true_or, or_true, false_or, or_false, and_false, false_and, if_false, ite_true, ite_false, PV.int.injEq, PV.bl.injEq, exists_eq_left', Bool.not_true, Bool.not_false, Bool.false_eq_true, not_true_eq_false, not_false_eq_true, reduceCtorEq, Option.some.injEq, wp_ok, wp_exc, wp_bad, wo_some, wo_none, wo_if, wo_map, wo_bind, wp_of, ws_nx, ws_rt, ws_rf, ws_bk, ws_ct, ws_exc, ws_bad, wp_name, wp_c, wp_m2, wp_m1, wp_test, wp_truthN, wp_lenN, wp_ixN, wp_and, wp_or, wp_notT, wp_andV, wp_orV, wp_notV, wp_if, wp_ifF, wp_args0, wp_args1, wp_tup, wp_frz, wp_callB, wp_callF, wp_cat, wp_repL, wp_chain, wp_cut, wp_part0, wp_part1, wp_call, wp_callFr, wp_callBx, wp_popN, wp_index, wp_yes, wp_seqI, wp_range, wp_revI, wp_zip, ws_seq, ws_nil, ws_pass, ws_ret, ws_retF, ws_retN, ws_set, ws_setF, ws_if, ws_asg, ws_par, ws_par3, ws_parF, ws_aug, ws_append, ws_setIx, wpP_runP, wpF_runF, wpB_runB, wpP_ok, wpF_ok, wpP_exc, wpB_ok, ws_for', ws_forNil, wp_comp, wpC_nil, ev_g0, ev_gs, ev_gn, ev_s0, ev_ss, ev_m0, ev_m1, ev_a0, ev_a1, ev_r0, ev_rs, ev_l0, ev_l1, ev_d0, ev_d1, ev_ob, ev_om, ev_it, ev_if, ev_gl, ev_gl1, ev_dl, ev_dl1, ev_gla, ev_dla, add_ii, addI_ii, sub_ii, add_ll, add_tt, mod_ii, div_ii, pow_ii, mul_ii, mul_li, lt_ii, le_ii, gt_ii, ge_ii, neg_i, eq_ii, ne_ii, eq_bb, ne_bb, is_bb, isnot_bb, is_n, is_in, is_sn, is_bn, is_tn, is_ln, isnot_n, isnot_in, truth_b, truth_i, truth_l, truth_t, len_l, len_t, len_s, ix_l, ix_t, ix_s, seq_l, seq_t, seq_s, tuple_l, tuple_t, list_l, list_t, list_s, on1_p, abs_i, int_b, int_i, max_ii, min_ii, rev_l, rev_t, zip_ll, zip_tt, cat_ll, range_1, range_2, slot_0, slot_s, isi_int_i, isi_int_b, isi_bool_i, isi_bool_b, isi_tup_t, isi_tup_l, isi_lst_l, isi_lst_t, isi_str_s, isi_str_i, isi_str_b, isi_str_n, isi_lt_l, isi_lt_t, isi_lt_i, isi_lt_b, isi_lt_s, isi_lt_n, at_0, at_1, at_2, at_3, at_last, mg_name, mg_tup, mg_nil, mg_cons, own0_own, startR_eq, wipe_0, wipe_1, back_0, back_1, ixN_3_0, ixN_3_1, ixN_3_2, szl, sze, wp_dict, eq_ww, ix_tv0, ix_tv1, tv_mk, mg_tv, tuple_tv, in_ww, isi_tv, len_tv, eq_tvs, index_w, at_w, ixw_not, f__law_told, c__law_told]
  refine ws_forInv (fun i ρ => ∃ j, ρ = [.val (.lst (l.map .int)), .val (.int k), .val (.str (wy w)), .own (tvs ((tl (l.take i) w).map (sc k))), .val (.int (ixw (if i % 2 = 0 then w else !w))), j]) ⟨_, rfl⟩ ?_ ?_
  · rintro i p ρ e ⟨j, rfl⟩
    obtain ⟨n, en, rfl⟩ := ints_get e
    have hi : i < l.length := by
      by_cases z : i < l.length
      · exact z
      · rw [List.getElem?_eq_none (by omega)] at en; cases en
    have hz : ((tvs ((tl (l.take i) w).map (sc k))).length < sizeLine) = True := szl (by simp [tvs, tl_len]; omega)
    simp -implicitDefEqProofs only [Nat.reduceSub, Nat.reduceAdd, Int.reduceLT, Int.reduceLE, Int.reduceGT, Int.reduceGE, Int.reduceEq, Int.reducePow, Nat.reducePow, Nat.reduceMul, Int.reduceNeg, Int.reduceToNat, Int.reduceAbs, Int.reduceMod, Int.reduceDiv, Int.reduceAdd, Int.reduceSub, Int.reduceMul, Nat.reduceLT, Nat.reduceLeDiff, Nat.reduceEqDiff, decide_eq_true_eq, decide_true, decide_false, and_true, true_and, true_or, or_true, false_or, or_false, and_false, false_and, if_false, ite_true, ite_false, PV.int.injEq, PV.bl.injEq, exists_eq_left', Bool.not_true, Bool.not_false, Bool.false_eq_true, not_true_eq_false, not_false_eq_true, reduceCtorEq, Option.some.injEq, wp_ok, wp_exc, wp_bad, wo_some, wo_none, wo_if, wo_map, wo_bind, wp_of, ws_nx, ws_rt, ws_rf, ws_bk, ws_ct, ws_exc, ws_bad, wp_name, wp_c, wp_m2, wp_m1, wp_test, wp_truthN, wp_lenN, wp_ixN, wp_and, wp_or, wp_notT, wp_andV, wp_orV, wp_notV, wp_if, wp_ifF, wp_args0, wp_args1, wp_tup, wp_frz, wp_callB, wp_callF, wp_cat, wp_repL, wp_chain, wp_cut, wp_part0, wp_part1, wp_call, wp_callFr, wp_callBx, wp_popN, wp_index, wp_yes, wp_seqI, wp_range, wp_revI, wp_zip, ws_seq, ws_nil, ws_pass, ws_ret, ws_retF, ws_retN, ws_set, ws_setF, ws_if, ws_asg, ws_par, ws_par3, ws_parF, ws_aug, ws_append, ws_setIx, wpP_runP, wpF_runF, wpB_runB, wpP_ok, wpF_ok, wpP_exc, wpB_ok, ws_for', ws_forNil, wp_comp, wpC_nil, ev_g0, ev_gs, ev_gn, ev_s0, ev_ss, ev_m0, ev_m1, ev_a0, ev_a1, ev_r0, ev_rs, ev_l0, ev_l1, ev_d0, ev_d1, ev_ob, ev_om, ev_it, ev_if, ev_gl, ev_gl1, ev_dl, ev_dl1, ev_gla, ev_dla, add_ii, addI_ii, sub_ii, add_ll, add_tt, mod_ii, div_ii, pow_ii, mul_ii, mul_li, lt_ii, le_ii, gt_ii, ge_ii, neg_i, eq_ii, ne_ii, eq_bb, ne_bb, is_bb, isnot_bb, is_n, is_in, is_sn, is_bn, is_tn, is_ln, isnot_n, isnot_in, truth_b, truth_i, truth_l, truth_t, len_l, len_t, len_s, ix_l, ix_t, ix_s, seq_l, seq_t, seq_s, tuple_l, tuple_t, list_l, list_t, list_s, on1_p, abs_i, int_b, int_i, max_ii, min_ii, rev_l, rev_t, zip_ll, zip_tt, cat_ll, range_1, range_2, slot_0, slot_s, isi_int_i, isi_int_b, isi_bool_i, isi_bool_b, isi_tup_t, isi_tup_l, isi_lst_l, isi_lst_t, isi_str_s, isi_str_i, isi_str_b, isi_str_n, isi_lt_l, isi_lt_t, isi_lt_i, isi_lt_b, isi_lt_s, isi_lt_n, at_0, at_1, at_2, at_3, at_last, mg_name, mg_tup, mg_nil, mg_cons, own0_own, startR_eq, wipe_0, wipe_1, back_0, back_1, ixN_3_0, ixN_3_1, ixN_3_2, szl, sze, wp_dict, eq_ww, ix_tv0, ix_tv1, tv_mk, mg_tv, tuple_tv, in_ww, isi_tv, len_tv, eq_tvs, index_w, at_w, ixw_not, hk, hz]
    have e1 : (l.take i).length = i := by simp; omega
    rw [take_snoc en, tl_snoc, e1]
    have e2 : ixw (!(if i % 2 = 0 then w else !w)) = ixw (if (i + 1) % 2 = 0 then w else !w) := by
      by_cases h : i % 2 = 0
      · rw [if_pos h, if_neg (by omega)]
      · rw [if_neg h, if_pos (by omega)]; simp
    rw [e2]
    refine ⟨.val (.int n), ?_⟩
    simp [tvs, sc, List.map_append]
  · rintro ρ ⟨j, rfl⟩
    simp -implicitDefEqProofs only [Nat.reduceSub, Nat.reduceAdd, Int.reduceLT, Int.reduceLE, Int.reduceGT, Int.reduceGE, Int.reduceEq, Int.reducePow, Nat.reducePow, Nat.reduceMul, Int.reduceNeg, Int.reduceToNat, Int.reduceAbs, Int.reduceMod, Int.reduceDiv, Int.reduceAdd, Int.reduceSub, Int.reduceMul, Nat.reduceLT, Nat.reduceLeDiff, Nat.reduceEqDiff, decide_eq_true_eq, decide_true, decide_false, and_true, true_and, true_or, or_true, false_or, or_false, and_false, false_and, if_false, ite_true, ite_false, PV.int.injEq, PV.bl.injEq, exists_eq_left', Bool.not_true, Bool.not_false, Bool.false_eq_true, not_true_eq_false, not_false_eq_true, reduceCtorEq, Option.some.injEq, wp_ok, wp_exc, wp_bad, wo_some, wo_none, wo_if, wo_map, wo_bind, wp_of, ws_nx, ws_rt, ws_rf, ws_bk, ws_ct, ws_exc, ws_bad, wp_name, wp_c, wp_m2, wp_m1, wp_test, wp_truthN, wp_lenN, wp_ixN, wp_and, wp_or, wp_notT, wp_andV, wp_orV, wp_notV, wp_if, wp_ifF, wp_args0, wp_args1, wp_tup, wp_frz, wp_callB, wp_callF, wp_cat, wp_repL, wp_chain, wp_cut, wp_part0, wp_part1, wp_call, wp_callFr, wp_callBx, wp_popN, wp_index, wp_yes, wp_seqI, wp_range, wp_revI, wp_zip, ws_seq, ws_nil, ws_pass, ws_ret, ws_retF, ws_retN, ws_set, ws_setF, ws_if, ws_asg, ws_par, ws_par3, ws_parF, ws_aug, ws_append, ws_setIx, wpP_runP, wpF_runF, wpB_runB, wpP_ok, wpF_ok, wpP_exc, wpB_ok, ws_for', ws_forNil, wp_comp, wpC_nil, ev_g0, ev_gs, ev_gn, ev_s0, ev_ss, ev_m0, ev_m1, ev_a0, ev_a1, ev_r0, ev_rs, ev_l0, ev_l1, ev_d0, ev_d1, ev_ob, ev_om, ev_it, ev_if, ev_gl, ev_gl1, ev_dl, ev_dl1, ev_gla, ev_dla, add_ii, addI_ii, sub_ii, add_ll, add_tt, mod_ii, div_ii, pow_ii, mul_ii, mul_li, lt_ii, le_ii, gt_ii, ge_ii, neg_i, eq_ii, ne_ii, eq_bb, ne_bb, is_bb, isnot_bb, is_n, is_in, is_sn, is_bn, is_tn, is_ln, isnot_n, isnot_in, truth_b, truth_i, truth_l, truth_t, len_l, len_t, len_s, ix_l, ix_t, ix_s, seq_l, seq_t, seq_s, tuple_l, tuple_t, list_l, list_t, list_s, on1_p, abs_i, int_b, int_i, max_ii, min_ii, rev_l, rev_t, zip_ll, zip_tt, cat_ll, range_1, range_2, slot_0, slot_s, isi_int_i, isi_int_b, isi_bool_i, isi_bool_b, isi_tup_t, isi_tup_l, isi_lst_l, isi_lst_t, isi_str_s, isi_str_i, isi_str_b, isi_str_n, isi_lt_l, isi_lt_t, isi_lt_i, isi_lt_b, isi_lt_s, isi_lt_n, at_0, at_1, at_2, at_3, at_last, mg_name, mg_tup, mg_nil, mg_cons, own0_own, startR_eq, wipe_0, wipe_1, back_0, back_1, ixN_3_0, ixN_3_1, ixN_3_2, szl, sze, wp_dict, eq_ww, ix_tv0, ix_tv1, tv_mk, mg_tv, tuple_tv, in_ww, isi_tv, len_tv, eq_tvs, index_w, at_w, ixw_not]
    simp [List.take_of_length_le]
def ivs (l : List Int) : PV := .lst (l.map .int)
abbrev Row16 := List Int × List Int × List Int
def rows16 : List Row16 := [([5, 2, 3], [6], [1]), ([5, 5, 5], [5], [1]), ([5, 5, 3], [5, 5, 3], []), ([3, 5, 5], [3, 5, 5], []),
  ([3, 3, 5], [5], [1]), ([2, 5, 5, 2], [2, 5, 5, 2], []), ([1, 2, 3, 2, 1], [1, 2, 3, 2, 1], []),
  ([3, 2, 1, 2, 3], [3], [2]), ([5, 1, 4, 2, 6], [12], [1, 3]), ([4, 4], [4, 4], []), ([7], [7], []),
  ([1, 1, 1, 1], [1, 1], [1, 2]), ([2, 1, 2, 4, 3], [3, 4, 3], [1]), ([1, 3, 2, 2, 3, 1], [1, 3, 3, 1], [2, 3])]
def rowv (r : Row16) : PV := .tup [ivs r.1, ivs r.2.1, ivs r.2.2]
def okRow (w : Bool) (r : Row16) : Bool :=
  decide (fg (tl r.1 w) = tl r.2.1 w) && decide (fgs (jn (tl r.1 w)) = r.2.2) && (decide (fg (tl r.1 w) = tl r.1 w) == r.2.2.isEmpty) && decide (r.1.length ≤ 10) && decide (r.2.1.length ≤ 10) && decide (r.2.2.length ≤ 10) && (tl r.1 w).all fun t => decide (1 ≤ t.2)
theorem rows_ok (w : Bool) : rows16.all (okRow w) = true := by cases w <;> decide +kernel
theorem pl_ints (d : Nat) (l : List Int) (h : l.length ≤ 1000) : Pl (d + 2) (ivs l) := by
  refine ⟨by simp; exact Nat.le_of_lt (sz _ (by omega)), fun x hx => ?_⟩
  obtain ⟨n, _, rfl⟩ := List.mem_map.mp hx
  trivial
theorem pl_tv (d : Nat) (t : T) : Pl (d + 2) (tv t) := by
  refine ⟨by simp; exact Nat.le_of_lt (sz _ (by omega)), fun x hx => ?_⟩
  simp at hx
  rcases hx with rfl | rfl
  · exact wy_ok _
  · trivial
theorem pl_tvs (d : Nat) (l : List T) (h : l.length ≤ 1000) : Pl (d + 3) (.lst (tvs l)) := by
  refine ⟨by simp [tvs]; exact Nat.le_of_lt (sz _ (by omega)), fun x hx => ?_⟩
  obtain ⟨n, _, rfl⟩ := List.mem_map.mp hx
  exact pl_tv _ _
theorem pl_lst (d : Nat) (l : List PV) (h : l.length ≤ 1000) (hl : ∀ x ∈ l, Pl d x) : Pl (d + 1) (.lst l) := ⟨Nat.le_of_lt (sz _ (by omega)), hl⟩
theorem eqv_ints : ∀ a b : List Int, PyData.eqvAll (pvDs (a.map .int)) (pvDs (b.map .int)) = decide (a = b)
  | [], [] => rfl
  | [], y :: b => rfl
  | x :: a, [] => rfl
  | m :: a, n :: b => by
    have ih := eqv_ints a b
    simp only [List.map_cons, pvDs, pvD, PyData.eqvAll, PyData.eqv] at ih ⊢
    rw [ih, Bool.eq_iff_iff]
    simp
theorem eq_ints (a b : List Int) : pvEq (ivs a) (ivs b) = some (.bl (decide (a = b))) := by
  unfold pvEq ivs
  have h : ∀ a : List Int, okD 12 (.lst (a.map .int)) = true := fun a => by simp [okD]
  rw [h, h]
  simp only [pvD, PyData.eqv, eqv_ints]
  rfl
theorem map_all {k : Int} (hk : 0 < k) (l : List T) (h : (l.all fun t => decide (1 ≤ t.2)) = true) : ∀ t ∈ l.map (sc k), 1 ≤ t.2 := by
  intro t ht
  obtain ⟨u, hu, rfl⟩ := List.mem_map.mp ht
  have := List.all_eq_true.mp h u hu
  simp at this
  show 1 ≤ u.2 * k
  exact Int.le_trans (by omega : (1 : Int) ≤ 1 * k) (Int.mul_le_mul_of_nonneg_right this (by omega))
theorem told_ok' (l : List Int) (k : Int) (w : Bool) (hl : l.length ≤ 900) (hk : -18446744073709551616 < k ∧ k < 18446744073709551616) : f__law_told [ivs l, .int k, .str (wy w)] = .ok (.lst (tvs ((tl l w).map (sc k)))) := told_ok l k w hl hk
theorem known_ok (k : Int) (w : Bool) (hk : 0 < k) (hk1 : k < 18446744073709551616) : f__law_known_right [.int k, .str (wy w)] = .ok (.bl true) := by
  rw [wpP_eq]
  have hk' : -18446744073709551616 < k ∧ k < 18446744073709551616 := ⟨by omega, hk1⟩
  simp -implicitDefEqProofs only [Nat.reduceSub, Nat.reduceAdd, Int.reduceLT, Int.reduceLE, Int.reduceGT, Int.reduceGE, Int.reduceEq, Int.reducePow, Nat.reducePow, Nat.reduceMul, Int.reduceNeg, Int.reduceToNat, Int.reduceAbs, Int.reduceMod, Int.reduceDiv, Int.reduceAdd, Int.reduceSub, Int.reduceMul, Nat.reduceLT, Nat.reduceLeDiff, Nat.reduceEqDiff, decide_eq_true_eq, decide_true, decide_false, and_true, true_and, true_or, or_true, false_or, or_false, and_false, false_and, if_false, ite_true, ite_false, PV.int.injEq, PV.bl.injEq, exists_eq_left', Bool.not_true, Bool.not_false, Bool.false_eq_true, not_true_eq_false, not_false_eq_true, reduceCtorEq, Option.some.injEq, wp_ok, wp_exc, wp_bad, wo_some, wo_none, wo_if, wo_map, wo_bind, wp_of, ws_nx, ws_rt, ws_rf, ws_bk, ws_ct, ws_exc, ws_bad, wp_name, wp_c, wp_m2, wp_m1, wp_test, wp_truthN, wp_lenN, wp_ixN, wp_and, wp_or, wp_notT, wp_andV, wp_orV, wp_notV, wp_if, wp_ifF, wp_args0, wp_args1, wp_tup, wp_frz, wp_callB, wp_callF, wp_cat, wp_repL, wp_chain, wp_cut, wp_part0, wp_part1, wp_call, wp_callFr, wp_callBx, wp_popN, wp_index, wp_yes, wp_seqI, wp_range, wp_revI, wp_zip, ws_seq, ws_nil, ws_pass, ws_ret, ws_retF, ws_retN, ws_set, ws_setF, ws_if, ws_asg, ws_par, ws_par3, ws_parF, ws_aug, ws_append, ws_setIx, wpP_runP, wpF_runF, wpB_runB, wpP_ok, wpF_ok, wpP_exc, wpB_ok, ws_for', ws_forNil, wp_comp, wpC_nil, ev_g0, ev_gs, ev_gn, ev_s0, ev_ss, ev_m0, ev_m1, ev_a0, ev_a1, ev_r0, ev_rs, ev_l0, ev_l1, ev_d0, ev_d1, ev_ob, ev_om, ev_it, ev_if, ev_gl, ev_gl1, ev_dl, ev_dl1, ev_gla, ev_dla, add_ii, addI_ii, sub_ii, add_ll, add_tt, mod_ii, div_ii, pow_ii, mul_ii, mul_li, lt_ii, le_ii, gt_ii, ge_ii, neg_i, eq_ii, ne_ii, eq_bb, ne_bb, is_bb, isnot_bb, is_n, is_in, is_sn, is_bn, is_tn, is_ln, isnot_n, isnot_in, truth_b, truth_i, truth_l, truth_t, len_l, len_t, len_s, ix_l, ix_t, ix_s, seq_l, seq_t, seq_s, tuple_l, tuple_t, list_l, list_t, list_s, on1_p, abs_i, int_b, int_i, max_ii, min_ii, rev_l, rev_t, zip_ll, zip_tt, cat_ll, range_1, range_2, slot_0, slot_s, isi_int_i, isi_int_b, isi_bool_i, isi_bool_b, isi_tup_t, isi_tup_l, isi_lst_l, isi_lst_t, isi_str_s, isi_str_i, isi_str_b, isi_str_n, isi_lt_l, isi_lt_t, isi_lt_i, isi_lt_b, isi_lt_s, isi_lt_n, at_0, at_1, at_2, at_3, at_last, mg_name, mg_tup, mg_nil, mg_cons, own0_own, startR_eq, wipe_0, wipe_1, back_0, back_1, ixN_3_0, ixN_3_1, ixN_3_2, szl, sze, wp_dict, eq_ww, ix_tv0, ix_tv1, tv_mk, mg_tv, tuple_tv, in_ww, isi_tv, len_tv, eq_tvs, index_w, at_w, ixw_not, eq_ints, told_ok', f__law_known_right, c__law_known_right]
  refine ws_forInv (fun i ρ => ∃ a b c d e f, ρ = [.val (.int k), .val (.str (wy w)), a, b, c, d, e, f]) ⟨_, _, _, _, _, _, rfl⟩ ?_ ?_
  · rintro i p ρ e ⟨xa, xb, xc, xd, xe, xf, rfl⟩
    replace e : (rows16.map rowv)[i]? = some p := e
    rw [List.getElem?_map] at e
    cases er : rows16[i]? with
    | none => rw [er] at e; cases e
    | some r =>
    rw [er] at e
    cases e
    have hr := List.all_eq_true.mp (rows_ok w) r (List.mem_of_getElem? er)
    obtain ⟨l, q, s⟩ := r
    simp only [okRow, Bool.and_eq_true, decide_eq_true_eq, beq_iff_eq] at hr
    obtain ⟨⟨⟨⟨⟨⟨h1, h2⟩, h3⟩, h4⟩, h5⟩, h6⟩, h7⟩ := hr
    have t1 := told_ok' l k w (by omega) hk'
    have t2 := told_ok' q k w (by omega) hk'
    have hlen : ((tl l w).map (sc k)).length ≤ 900 := by simp [tl_len]; omega
    have f1 := fg_ok ((tl l w).map (sc k)) hlen
    have f2 := fgs_ok ((tl l w).map (sc k)) hlen
    have f3 := isfg_ok ((tl l w).map (sc k)) hlen (map_all hk _ h7)
    rw [fg_sc k hk, h1] at f1
    rw [jn_sc, fgs_sc k hk, h2] at f2
    rw [fg_sc k hk] at f3
    simp only [sc_inj k hk, h3] at f3
    have es : pvEq (ivs s) (.lst []) = some (.bl (s.isEmpty)) := by
      have := eq_ints s []
      rw [show ivs [] = .lst [] from rfl] at this
      rw [this]
      cases s <;> rfl
    have sm := same_refl 6 (.lst [.lst (tvs ((tl q w).map (sc k))), ivs s, .bl s.isEmpty]) (pl_lst 5 _ (by simp) (by
      intro x hx
      simp at hx
      rcases hx with rfl | rfl | rfl
      · exact pl_tvs 2 _ (by simp [tl_len]; omega)
      · exact pl_ints 3 _ (by omega)
      · trivial))
    change f_forgets _ = .ok (ivs s) at f2
    simp -implicitDefEqProofs only [Nat.reduceSub, Nat.reduceAdd, Int.reduceLT, Int.reduceLE, Int.reduceGT, Int.reduceGE, Int.reduceEq, Int.reducePow, Nat.reducePow, Nat.reduceMul, Int.reduceNeg, Int.reduceToNat, Int.reduceAbs, Int.reduceMod, Int.reduceDiv, Int.reduceAdd, Int.reduceSub, Int.reduceMul, Nat.reduceLT, Nat.reduceLeDiff, Nat.reduceEqDiff, decide_eq_true_eq, decide_true, decide_false, and_true, true_and, true_or, or_true, false_or, or_false, and_false, false_and, if_false, ite_true, ite_false, PV.int.injEq, PV.bl.injEq, exists_eq_left', Bool.not_true, Bool.not_false, Bool.false_eq_true, not_true_eq_false, not_false_eq_true, reduceCtorEq, Option.some.injEq, wp_ok, wp_exc, wp_bad, wo_some, wo_none, wo_if, wo_map, wo_bind, wp_of, ws_nx, ws_rt, ws_rf, ws_bk, ws_ct, ws_exc, ws_bad, wp_name, wp_c, wp_m2, wp_m1, wp_test, wp_truthN, wp_lenN, wp_ixN, wp_and, wp_or, wp_notT, wp_andV, wp_orV, wp_notV, wp_if, wp_ifF, wp_args0, wp_args1, wp_tup, wp_frz, wp_callB, wp_callF, wp_cat, wp_repL, wp_chain, wp_cut, wp_part0, wp_part1, wp_call, wp_callFr, wp_callBx, wp_popN, wp_index, wp_yes, wp_seqI, wp_range, wp_revI, wp_zip, ws_seq, ws_nil, ws_pass, ws_ret, ws_retF, ws_retN, ws_set, ws_setF, ws_if, ws_asg, ws_par, ws_par3, ws_parF, ws_aug, ws_append, ws_setIx, wpP_runP, wpF_runF, wpB_runB, wpP_ok, wpF_ok, wpP_exc, wpB_ok, ws_for', ws_forNil, wp_comp, wpC_nil, ev_g0, ev_gs, ev_gn, ev_s0, ev_ss, ev_m0, ev_m1, ev_a0, ev_a1, ev_r0, ev_rs, ev_l0, ev_l1, ev_d0, ev_d1, ev_ob, ev_om, ev_it, ev_if, ev_gl, ev_gl1, ev_dl, ev_dl1, ev_gla, ev_dla, add_ii, addI_ii, sub_ii, add_ll, add_tt, mod_ii, div_ii, pow_ii, mul_ii, mul_li, lt_ii, le_ii, gt_ii, ge_ii, neg_i, eq_ii, ne_ii, eq_bb, ne_bb, is_bb, isnot_bb, is_n, is_in, is_sn, is_bn, is_tn, is_ln, isnot_n, isnot_in, truth_b, truth_i, truth_l, truth_t, len_l, len_t, len_s, ix_l, ix_t, ix_s, seq_l, seq_t, seq_s, tuple_l, tuple_t, list_l, list_t, list_s, on1_p, abs_i, int_b, int_i, max_ii, min_ii, rev_l, rev_t, zip_ll, zip_tt, cat_ll, range_1, range_2, slot_0, slot_s, isi_int_i, isi_int_b, isi_bool_i, isi_bool_b, isi_tup_t, isi_tup_l, isi_lst_l, isi_lst_t, isi_str_s, isi_str_i, isi_str_b, isi_str_n, isi_lt_l, isi_lt_t, isi_lt_i, isi_lt_b, isi_lt_s, isi_lt_n, at_0, at_1, at_2, at_3, at_last, mg_name, mg_tup, mg_nil, mg_cons, own0_own, startR_eq, wipe_0, wipe_1, back_0, back_1, ixN_3_0, ixN_3_1, ixN_3_2, szl, sze, wp_dict, eq_ww, ix_tv0, ix_tv1, tv_mk, mg_tv, tuple_tv, in_ww, isi_tv, len_tv, eq_tvs, index_w, at_w, ixw_not, eq_ints, told_ok', rowv, t1, t2, f1, f2, f3, es, sm]
    exact ⟨_, _, _, _, _, _, rfl⟩
  · rintro ρ ⟨a, b, c, d, e, f, rfl⟩
    simp -implicitDefEqProofs only [Nat.reduceSub, Nat.reduceAdd, Int.reduceLT, Int.reduceLE, Int.reduceGT, Int.reduceGE, Int.reduceEq, Int.reducePow, Nat.reducePow, Nat.reduceMul, Int.reduceNeg, Int.reduceToNat, Int.reduceAbs, Int.reduceMod, Int.reduceDiv, Int.reduceAdd, Int.reduceSub, Int.reduceMul, Nat.reduceLT, Nat.reduceLeDiff, Nat.reduceEqDiff, decide_eq_true_eq, decide_true, decide_false, and_true, true_and, true_or, or_true, false_or, or_false, and_false, false_and, if_false, ite_true, ite_false, PV.int.injEq, PV.bl.injEq, exists_eq_left', Bool.not_true, Bool.not_false, Bool.false_eq_true, not_true_eq_false, not_false_eq_true, reduceCtorEq, Option.some.injEq, wp_ok, wp_exc, wp_bad, wo_some, wo_none, wo_if, wo_map, wo_bind, wp_of, ws_nx, ws_rt, ws_rf, ws_bk, ws_ct, ws_exc, ws_bad, wp_name, wp_c, wp_m2, wp_m1, wp_test, wp_truthN, wp_lenN, wp_ixN, wp_and, wp_or, wp_notT, wp_andV, wp_orV, wp_notV, wp_if, wp_ifF, wp_args0, wp_args1, wp_tup, wp_frz, wp_callB, wp_callF, wp_cat, wp_repL, wp_chain, wp_cut, wp_part0, wp_part1, wp_call, wp_callFr, wp_callBx, wp_popN, wp_index, wp_yes, wp_seqI, wp_range, wp_revI, wp_zip, ws_seq, ws_nil, ws_pass, ws_ret, ws_retF, ws_retN, ws_set, ws_setF, ws_if, ws_asg, ws_par, ws_par3, ws_parF, ws_aug, ws_append, ws_setIx, wpP_runP, wpF_runF, wpB_runB, wpP_ok, wpF_ok, wpP_exc, wpB_ok, ws_for', ws_forNil, wp_comp, wpC_nil, ev_g0, ev_gs, ev_gn, ev_s0, ev_ss, ev_m0, ev_m1, ev_a0, ev_a1, ev_r0, ev_rs, ev_l0, ev_l1, ev_d0, ev_d1, ev_ob, ev_om, ev_it, ev_if, ev_gl, ev_gl1, ev_dl, ev_dl1, ev_gla, ev_dla, add_ii, addI_ii, sub_ii, add_ll, add_tt, mod_ii, div_ii, pow_ii, mul_ii, mul_li, lt_ii, le_ii, gt_ii, ge_ii, neg_i, eq_ii, ne_ii, eq_bb, ne_bb, is_bb, isnot_bb, is_n, is_in, is_sn, is_bn, is_tn, is_ln, isnot_n, isnot_in, truth_b, truth_i, truth_l, truth_t, len_l, len_t, len_s, ix_l, ix_t, ix_s, seq_l, seq_t, seq_s, tuple_l, tuple_t, list_l, list_t, list_s, on1_p, abs_i, int_b, int_i, max_ii, min_ii, rev_l, rev_t, zip_ll, zip_tt, cat_ll, range_1, range_2, slot_0, slot_s, isi_int_i, isi_int_b, isi_bool_i, isi_bool_b, isi_tup_t, isi_tup_l, isi_lst_l, isi_lst_t, isi_str_s, isi_str_i, isi_str_b, isi_str_n, isi_lt_l, isi_lt_t, isi_lt_i, isi_lt_b, isi_lt_s, isi_lt_n, at_0, at_1, at_2, at_3, at_last, mg_name, mg_tup, mg_nil, mg_cons, own0_own, startR_eq, wipe_0, wipe_1, back_0, back_1, ixN_3_0, ixN_3_1, ixN_3_2, szl, sze, wp_dict, eq_ww, ix_tv0, ix_tv1, tv_mk, mg_tv, tuple_tv, in_ww, isi_tv, len_tv, eq_tvs, index_w, at_w, ixw_not, eq_ints, told_ok']
theorem dix_w (w : Bool) : pvDix (.dic [.inr "forth", .inr "back"] [.str "back", .str "forth"]) (.str (wy w)) = some (.str (wy (!w))) := by
  cases w <;> rfl
theorem pl_tvss (d : Nat) (l : List (List T)) (h : l.length ≤ 1000) (hl : ∀ x ∈ l, x.length ≤ 1000) : Pl (d + 4) (.lst (l.map fun x => .lst (tvs x))) := by
  refine pl_lst (d + 3) _ (by simpa using h) fun x hx => ?_
  obtain ⟨y, hy, rfl⟩ := List.mem_map.mp hx
  exact pl_tvs d y (hl y hy)
theorem so_sc {k : Int} (hk : 0 < k) (hl : List T) (n : Nat) (r : List T) (h0 : hl.length ≤ 900) (h1 : soS 60 n [] (fg hl) = true) (h2 : so hl n = r) : f_so_often [.lst (tvs (hl.map (sc k))), .int (n : Int)] = .ok (.lst (tvs (r.map (sc k)))) := by
  have e := so_ok (hl.map (sc k)) n (by simpa using h0) (by rw [fg_sc k hk]; exact (soS_sc k hk 60 n [] (fg hl)).trans h1)
  rw [e]
  congr 3
  unfold so at h2 ⊢
  rw [fg_sc k hk, ← h2]
  exact soF_sc k hk 60 n [] (fg hl)
def bsA (w : Bool) : List T := [(w, 2), (!w, 2), (!w, 1), (w, 2), (w, 1)]
def bsB (w : Bool) : List T := [(w, 2), (!w, 3), (w, 3)]
def bsD (w : Bool) (n : Int) : List T := [(w, n), (!w, 2)]
abbrev bsC (w : Bool) : List T := bsD w 3
def bsE (w : Bool) (n : Int) : List T := [(w, 1), (!w, n), (w, 1)]
theorem bs_facts (w : Bool) : (decide (jn (bsA w) = bsB w) && decide (fgs (jn (bsA w)) = []) && decide (fg (bsA w) = bsB w) && !decide (fg (bsA w) = bsA w)) = true := by cases w <;> decide +kernel
theorem so_facts (w : Bool) : (decide (so (bsC w) 0 = []) && decide (so (bsC w) 1 = bsD w 3) && decide (so (bsC w) 2 = bsD w 4) && decide (so (bsC w) 1000000000000 = bsD w 1000000000002) && soS 60 0 [] (fg (bsC w)) && soS 60 1 [] (fg (bsC w)) && soS 60 2 [] (fg (bsC w)) && soS 60 1000000000000 [] (fg (bsC w))) = true := by cases w <;> decide +kernel
theorem so_facts2 (w : Bool) : (decide (so (bsE w 3) 1 = bsE w 3) && decide (so (bsE w 3) 2 = bsE w 4) && decide (so (bsE w 3) 3 = bsE w 5) && soS 60 1 [] (fg (bsE w 3)) && soS 60 2 [] (fg (bsE w 3)) && soS 60 3 [] (fg (bsE w 3))) = true := by cases w <;> decide +kernel
theorem joined_ok (k : Int) (w : Bool) (hk : 0 < k) (hk1 : k < 18446744073709551616) : f__law_joined_right [.int k, .str (wy w)] = .ok (.bl true) := by
  rw [wpP_eq]
  have hk' : -18446744073709551616 < k ∧ k < 18446744073709551616 := ⟨by omega, hk1⟩
  have eA : [tv (w, 2 * k), tv (!w, 2 * k), tv (!w, k), tv (w, 2 * k), tv (w, k)] = tvs ((bsA w).map (sc k)) := by simp [tvs, bsA, sc]
  have eB : [tv (w, 2 * k), tv (!w, 3 * k), tv (w, 3 * k)] = tvs ((bsB w).map (sc k)) := by simp [tvs, bsB, sc]
  have eE : ∀ n : Int, [tv (w, k), tv (!w, n * k), tv (w, k)] = tvs ((bsE w n).map (sc k)) := fun n => by simp [tvs, bsE, sc]
  have eD : ∀ n : Int, [tv (w, n * k), tv (!w, 2 * k)] = tvs ((bsD w n).map (sc k)) := fun n => by simp [tvs, bsD, sc]
  have f := bs_facts w
  simp only [Bool.and_eq_true, decide_eq_true_eq, Bool.not_eq_true', decide_eq_false_iff_not] at f
  obtain ⟨⟨⟨f1, f2⟩, f3⟩, f4⟩ := f
  have j1 := jn_ok ((bsA w).map (sc k)) (by simp [bsA])
  have j2 := fgs_ok ((bsA w).map (sc k)) (by simp [bsA])
  have j3 := fg_ok ((bsA w).map (sc k)) (by simp [bsA])
  have j4 := isfg_ok ((bsA w).map (sc k)) (by simp [bsA]) (map_all hk _ (by simp [bsA]))
  rw [jn_sc, f1] at j1
  rw [jn_sc, fgs_sc k hk, f2] at j2
  rw [fg_sc k hk, f3] at j3
  rw [fg_sc k hk] at j4
  simp only [sc_inj k hk, f4, decide_false] at j4
  have s := so_facts w
  simp only [Bool.and_eq_true, decide_eq_true_eq] at s
  obtain ⟨⟨⟨⟨⟨⟨⟨s0, s1⟩, s2⟩, s3⟩, t0⟩, t1⟩, t2⟩, t3⟩ := s
  have o0 := so_sc hk (bsC w) 0 _ (by simp [bsD]) t0 s0
  have o1 := so_sc hk (bsC w) 1 _ (by simp [bsD]) t1 s1
  have o2 := so_sc hk (bsC w) 2 _ (by simp [bsD]) t2 s2
  have o3 := so_sc hk (bsC w) 1000000000000 _ (by simp [bsD]) t3 s3
  have u := so_facts2 w
  simp only [Bool.and_eq_true, decide_eq_true_eq] at u
  obtain ⟨⟨⟨⟨⟨u1, u2⟩, u3⟩, v1⟩, v2⟩, v3⟩ := u
  have p1 := so_sc hk (bsE w 3) 1 _ (by simp [bsE]) v1 u1
  have p2 := so_sc hk (bsE w 3) 2 _ (by simp [bsE]) v2 u2
  have p3 := so_sc hk (bsE w 3) 3 _ (by simp [bsE]) v3 u3
  have q1 := same_refl 6 (.lst [.lst (tvs ((bsB w).map (sc k))), .lst []]) (pl_tvss 2 [(bsB w).map (sc k), []] (by simp) (by simp [bsB]))
  have q2 := same_refl 6 (.lst (tvs ((bsB w).map (sc k)))) (pl_tvs 3 _ (by simp [bsB]))
  have q3 := same_refl 6 (.lst [.lst [], .lst (tvs ((bsD w 3).map (sc k))), .lst (tvs ((bsD w 4).map (sc k))), .lst (tvs ((bsD w 1000000000002).map (sc k)))]) (pl_tvss 2 [[], (bsD w 3).map (sc k), (bsD w 4).map (sc k), (bsD w 1000000000002).map (sc k)] (by simp) (by simp [bsD]))
  have q4 := same_refl 6 (.lst [.lst (tvs ((bsE w 3).map (sc k))), .lst (tvs ((bsE w 4).map (sc k))), .lst (tvs ((bsE w 5).map (sc k)))]) (pl_tvss 2 [(bsE w 3).map (sc k), (bsE w 4).map (sc k), (bsE w 5).map (sc k)] (by simp) (by simp [bsE]))
  change f_so_often [_, .int 0] = .ok (.lst []) at o0
  change f_so_often [_, .int 1] = _ at o1
  change f_so_often [_, .int 2] = _ at o2
  change f_so_often [_, .int 1000000000000] = _ at o3
  change f_so_often [_, .int 1] = _ at p1
  change f_so_often [_, .int 2] = _ at p2
  change f_so_often [_, .int 3] = _ at p3
  change f_forgets _ = .ok (.lst []) at j2
  simp -implicitDefEqProofs only [Nat.reduceSub, Nat.reduceAdd, Int.reduceLT, Int.reduceLE, Int.reduceGT, Int.reduceGE, Int.reduceEq, Int.reducePow, Nat.reducePow, Nat.reduceMul, Int.reduceNeg, Int.reduceToNat, Int.reduceAbs, Int.reduceMod, Int.reduceDiv, Int.reduceAdd, Int.reduceSub, Int.reduceMul, Nat.reduceLT, Nat.reduceLeDiff, Nat.reduceEqDiff, decide_eq_true_eq, decide_true, decide_false, and_true, true_and, true_or, or_true, false_or, or_false, and_false, false_and, if_false, ite_true, ite_false, PV.int.injEq, PV.bl.injEq, exists_eq_left', Bool.not_true, Bool.not_false, Bool.false_eq_true, not_true_eq_false, not_false_eq_true, reduceCtorEq, Option.some.injEq, wp_ok, wp_exc, wp_bad, wo_some, wo_none, wo_if, wo_map, wo_bind, wp_of, ws_nx, ws_rt, ws_rf, ws_bk, ws_ct, ws_exc, ws_bad, wp_name, wp_c, wp_m2, wp_m1, wp_test, wp_truthN, wp_lenN, wp_ixN, wp_and, wp_or, wp_notT, wp_andV, wp_orV, wp_notV, wp_if, wp_ifF, wp_args0, wp_args1, wp_tup, wp_frz, wp_callB, wp_callF, wp_cat, wp_repL, wp_chain, wp_cut, wp_part0, wp_part1, wp_call, wp_callFr, wp_callBx, wp_popN, wp_index, wp_yes, wp_seqI, wp_range, wp_revI, wp_zip, ws_seq, ws_nil, ws_pass, ws_ret, ws_retF, ws_retN, ws_set, ws_setF, ws_if, ws_asg, ws_par, ws_par3, ws_parF, ws_aug, ws_append, ws_setIx, wpP_runP, wpF_runF, wpB_runB, wpP_ok, wpF_ok, wpP_exc, wpB_ok, ws_for', ws_forNil, wp_comp, wpC_nil, ev_g0, ev_gs, ev_gn, ev_s0, ev_ss, ev_m0, ev_m1, ev_a0, ev_a1, ev_r0, ev_rs, ev_l0, ev_l1, ev_d0, ev_d1, ev_ob, ev_om, ev_it, ev_if, ev_gl, ev_gl1, ev_dl, ev_dl1, ev_gla, ev_dla, add_ii, addI_ii, sub_ii, add_ll, add_tt, mod_ii, div_ii, pow_ii, mul_ii, mul_li, lt_ii, le_ii, gt_ii, ge_ii, neg_i, eq_ii, ne_ii, eq_bb, ne_bb, is_bb, isnot_bb, is_n, is_in, is_sn, is_bn, is_tn, is_ln, isnot_n, isnot_in, truth_b, truth_i, truth_l, truth_t, len_l, len_t, len_s, ix_l, ix_t, ix_s, seq_l, seq_t, seq_s, tuple_l, tuple_t, list_l, list_t, list_s, on1_p, abs_i, int_b, int_i, max_ii, min_ii, rev_l, rev_t, zip_ll, zip_tt, cat_ll, range_1, range_2, slot_0, slot_s, isi_int_i, isi_int_b, isi_bool_i, isi_bool_b, isi_tup_t, isi_tup_l, isi_lst_l, isi_lst_t, isi_str_s, isi_str_i, isi_str_b, isi_str_n, isi_lt_l, isi_lt_t, isi_lt_i, isi_lt_b, isi_lt_s, isi_lt_n, at_0, at_1, at_2, at_3, at_last, mg_name, mg_tup, mg_nil, mg_cons, own0_own, startR_eq, wipe_0, wipe_1, back_0, back_1, ixN_3_0, ixN_3_1, ixN_3_2, szl, sze, wp_dict, eq_ww, ix_tv0, ix_tv1, tv_mk, mg_tv, tuple_tv, in_ww, isi_tv, len_tv, eq_tvs, index_w, at_w, ixw_not, eq_ints, told_ok', dix_w, f__law_joined_right, c__law_joined_right, hk', eA, eB, eE, eD, j1, j2, j3, j4, q1, q2, wpC_cons, o0, o1, o2, o3, p1, p2, p3, q3, q4]
theorem law_k16 (ns : List Int) (hl : ns.length ≤ 63) : f_law [.scr ns] = .ok (.bl true) := by
  rw [wpP_eq]
  simp -implicitDefEqProofs only [Nat.reduceSub, Nat.reduceAdd, Int.reduceLT, Int.reduceLE, Int.reduceGT, Int.reduceGE, Int.reduceEq, Int.reducePow, Nat.reducePow, Nat.reduceMul, Int.reduceNeg, Int.reduceToNat, Int.reduceAbs, Int.reduceMod, Int.reduceDiv, Int.reduceAdd, Int.reduceSub, Int.reduceMul, Nat.reduceLT, Nat.reduceLeDiff, Nat.reduceEqDiff, decide_eq_true_eq, decide_true, decide_false, and_true, true_and, true_or, or_true, false_or, or_false, and_false, false_and, if_false, ite_true, ite_false, PV.int.injEq, PV.bl.injEq, exists_eq_left', Bool.not_true, Bool.not_false, Bool.false_eq_true, not_true_eq_false, not_false_eq_true, reduceCtorEq, Option.some.injEq, wp_ok, wp_exc, wp_bad, wo_some, wo_none, wo_if, wo_map, wo_bind, wp_of, ws_nx, ws_rt, ws_rf, ws_bk, ws_ct, ws_exc, ws_bad, wp_name, wp_c, wp_m2, wp_m1, wp_test, wp_truthN, wp_lenN, wp_ixN, wp_and, wp_or, wp_notT, wp_andV, wp_orV, wp_notV, wp_if, wp_ifF, wp_args0, wp_args1, wp_tup, wp_frz, wp_callB, wp_callF, wp_cat, wp_repL, wp_chain, wp_cut, wp_part0, wp_part1, wp_call, wp_callFr, wp_callBx, wp_popN, wp_index, wp_yes, wp_seqI, wp_range, wp_revI, wp_zip, ws_seq, ws_nil, ws_pass, ws_ret, ws_retF, ws_retN, ws_set, ws_setF, ws_if, ws_asg, ws_par, ws_par3, ws_parF, ws_aug, ws_append, ws_setIx, wpP_runP, wpF_runF, wpB_runB, wpP_ok, wpF_ok, wpP_exc, wpB_ok, ws_for', ws_forNil, wp_comp, wpC_nil, ev_g0, ev_gs, ev_gn, ev_s0, ev_ss, ev_m0, ev_m1, ev_a0, ev_a1, ev_r0, ev_rs, ev_l0, ev_l1, ev_d0, ev_d1, ev_ob, ev_om, ev_it, ev_if, ev_gl, ev_gl1, ev_dl, ev_dl1, ev_gla, ev_dla, add_ii, addI_ii, sub_ii, add_ll, add_tt, mod_ii, div_ii, pow_ii, mul_ii, mul_li, lt_ii, le_ii, gt_ii, ge_ii, neg_i, eq_ii, ne_ii, eq_bb, ne_bb, is_bb, isnot_bb, is_n, is_in, is_sn, is_bn, is_tn, is_ln, isnot_n, isnot_in, truth_b, truth_i, truth_l, truth_t, len_l, len_t, len_s, ix_l, ix_t, ix_s, seq_l, seq_t, seq_s, tuple_l, tuple_t, list_l, list_t, list_s, on1_p, abs_i, int_b, int_i, max_ii, min_ii, rev_l, rev_t, zip_ll, zip_tt, cat_ll, range_1, range_2, slot_0, slot_s, isi_int_i, isi_int_b, isi_bool_i, isi_bool_b, isi_tup_t, isi_tup_l, isi_lst_l, isi_lst_t, isi_str_s, isi_str_i, isi_str_b, isi_str_n, isi_lt_l, isi_lt_t, isi_lt_i, isi_lt_b, isi_lt_s, isi_lt_n, at_0, at_1, at_2, at_3, at_last, mg_name, mg_tup, mg_nil, mg_cons, own0_own, startR_eq, wipe_0, wipe_1, back_0, back_1, ixN_3_0, ixN_3_1, ixN_3_2, szl, sze, wp_dict, eq_ww, ix_tv0, ix_tv1, tv_mk, mg_tv, tuple_tv, in_ww, isi_tv, len_tv, eq_tvs, index_w, at_w, ixw_not, eq_ints, told_ok', dix_w, f_law, c_law]
  rw [if_pos (by omega)]
  refine ws_forInv (fun i ρ => ∃ a b c d, ρ = [.val (.scr ns), a, b, c, d]) ⟨_, _, _, _, rfl⟩ ?_ ?_
  · rintro i p ρ e ⟨a, b, c, d, rfl⟩
    obtain ⟨hi, rfl⟩ := rangeP_get e
    have hi' : i < 100 := by omega
    simp -implicitDefEqProofs only [Nat.reduceSub, Nat.reduceAdd, Int.reduceLT, Int.reduceLE, Int.reduceGT, Int.reduceGE, Int.reduceEq, Int.reducePow, Nat.reducePow, Nat.reduceMul, Int.reduceNeg, Int.reduceToNat, Int.reduceAbs, Int.reduceMod, Int.reduceDiv, Int.reduceAdd, Int.reduceSub, Int.reduceMul, Nat.reduceLT, Nat.reduceLeDiff, Nat.reduceEqDiff, decide_eq_true_eq, decide_true, decide_false, and_true, true_and, true_or, or_true, false_or, or_false, and_false, false_and, if_false, ite_true, ite_false, PV.int.injEq, PV.bl.injEq, exists_eq_left', Bool.not_true, Bool.not_false, Bool.false_eq_true, not_true_eq_false, not_false_eq_true, reduceCtorEq, Option.some.injEq, wp_ok, wp_exc, wp_bad, wo_some, wo_none, wo_if, wo_map, wo_bind, wp_of, ws_nx, ws_rt, ws_rf, ws_bk, ws_ct, ws_exc, ws_bad, wp_name, wp_c, wp_m2, wp_m1, wp_test, wp_truthN, wp_lenN, wp_ixN, wp_and, wp_or, wp_notT, wp_andV, wp_orV, wp_notV, wp_if, wp_ifF, wp_args0, wp_args1, wp_tup, wp_frz, wp_callB, wp_callF, wp_cat, wp_repL, wp_chain, wp_cut, wp_part0, wp_part1, wp_call, wp_callFr, wp_callBx, wp_popN, wp_index, wp_yes, wp_seqI, wp_range, wp_revI, wp_zip, ws_seq, ws_nil, ws_pass, ws_ret, ws_retF, ws_retN, ws_set, ws_setF, ws_if, ws_asg, ws_par, ws_par3, ws_parF, ws_aug, ws_append, ws_setIx, wpP_runP, wpF_runF, wpB_runB, wpP_ok, wpF_ok, wpP_exc, wpB_ok, ws_for', ws_forNil, wp_comp, wpC_nil, ev_g0, ev_gs, ev_gn, ev_s0, ev_ss, ev_m0, ev_m1, ev_a0, ev_a1, ev_r0, ev_rs, ev_l0, ev_l1, ev_d0, ev_d1, ev_ob, ev_om, ev_it, ev_if, ev_gl, ev_gl1, ev_dl, ev_dl1, ev_gla, ev_dla, add_ii, addI_ii, sub_ii, add_ll, add_tt, mod_ii, div_ii, pow_ii, mul_ii, mul_li, lt_ii, le_ii, gt_ii, ge_ii, neg_i, eq_ii, ne_ii, eq_bb, ne_bb, is_bb, isnot_bb, is_n, is_in, is_sn, is_bn, is_tn, is_ln, isnot_n, isnot_in, truth_b, truth_i, truth_l, truth_t, len_l, len_t, len_s, ix_l, ix_t, ix_s, seq_l, seq_t, seq_s, tuple_l, tuple_t, list_l, list_t, list_s, on1_p, abs_i, int_b, int_i, max_ii, min_ii, rev_l, rev_t, zip_ll, zip_tt, cat_ll, range_1, range_2, slot_0, slot_s, isi_int_i, isi_int_b, isi_bool_i, isi_bool_b, isi_tup_t, isi_tup_l, isi_lst_l, isi_lst_t, isi_str_s, isi_str_i, isi_str_b, isi_str_n, isi_lt_l, isi_lt_t, isi_lt_i, isi_lt_b, isi_lt_s, isi_lt_n, at_0, at_1, at_2, at_3, at_last, mg_name, mg_tup, mg_nil, mg_cons, own0_own, startR_eq, wipe_0, wipe_1, back_0, back_1, ixN_3_0, ixN_3_1, ixN_3_2, szl, sze, wp_dict, eq_ww, ix_tv0, ix_tv1, tv_mk, mg_tv, tuple_tv, in_ww, isi_tv, len_tv, eq_tvs, index_w, at_w, ixw_not, eq_ints, told_ok', dix_w, Int.zero_add]
    refine (box_ok hi').use fun xs hx => ?_
    simp -implicitDefEqProofs only [Nat.reduceSub, Nat.reduceAdd, Int.reduceLT, Int.reduceLE, Int.reduceGT, Int.reduceGE, Int.reduceEq, Int.reducePow, Nat.reducePow, Nat.reduceMul, Int.reduceNeg, Int.reduceToNat, Int.reduceAbs, Int.reduceMod, Int.reduceDiv, Int.reduceAdd, Int.reduceSub, Int.reduceMul, Nat.reduceLT, Nat.reduceLeDiff, Nat.reduceEqDiff, decide_eq_true_eq, decide_true, decide_false, and_true, true_and, true_or, or_true, false_or, or_false, and_false, false_and, if_false, ite_true, ite_false, PV.int.injEq, PV.bl.injEq, exists_eq_left', Bool.not_true, Bool.not_false, Bool.false_eq_true, not_true_eq_false, not_false_eq_true, reduceCtorEq, Option.some.injEq, wp_ok, wp_exc, wp_bad, wo_some, wo_none, wo_if, wo_map, wo_bind, wp_of, ws_nx, ws_rt, ws_rf, ws_bk, ws_ct, ws_exc, ws_bad, wp_name, wp_c, wp_m2, wp_m1, wp_test, wp_truthN, wp_lenN, wp_ixN, wp_and, wp_or, wp_notT, wp_andV, wp_orV, wp_notV, wp_if, wp_ifF, wp_args0, wp_args1, wp_tup, wp_frz, wp_callB, wp_callF, wp_cat, wp_repL, wp_chain, wp_cut, wp_part0, wp_part1, wp_call, wp_callFr, wp_callBx, wp_popN, wp_index, wp_yes, wp_seqI, wp_range, wp_revI, wp_zip, ws_seq, ws_nil, ws_pass, ws_ret, ws_retF, ws_retN, ws_set, ws_setF, ws_if, ws_asg, ws_par, ws_par3, ws_parF, ws_aug, ws_append, ws_setIx, wpP_runP, wpF_runF, wpB_runB, wpP_ok, wpF_ok, wpP_exc, wpB_ok, ws_for', ws_forNil, wp_comp, wpC_nil, ev_g0, ev_gs, ev_gn, ev_s0, ev_ss, ev_m0, ev_m1, ev_a0, ev_a1, ev_r0, ev_rs, ev_l0, ev_l1, ev_d0, ev_d1, ev_ob, ev_om, ev_it, ev_if, ev_gl, ev_gl1, ev_dl, ev_dl1, ev_gla, ev_dla, add_ii, addI_ii, sub_ii, add_ll, add_tt, mod_ii, div_ii, pow_ii, mul_ii, mul_li, lt_ii, le_ii, gt_ii, ge_ii, neg_i, eq_ii, ne_ii, eq_bb, ne_bb, is_bb, isnot_bb, is_n, is_in, is_sn, is_bn, is_tn, is_ln, isnot_n, isnot_in, truth_b, truth_i, truth_l, truth_t, len_l, len_t, len_s, ix_l, ix_t, ix_s, seq_l, seq_t, seq_s, tuple_l, tuple_t, list_l, list_t, list_s, on1_p, abs_i, int_b, int_i, max_ii, min_ii, rev_l, rev_t, zip_ll, zip_tt, cat_ll, range_1, range_2, slot_0, slot_s, isi_int_i, isi_int_b, isi_bool_i, isi_bool_b, isi_tup_t, isi_tup_l, isi_lst_l, isi_lst_t, isi_str_s, isi_str_i, isi_str_b, isi_str_n, isi_lt_l, isi_lt_t, isi_lt_i, isi_lt_b, isi_lt_s, isi_lt_n, at_0, at_1, at_2, at_3, at_last, mg_name, mg_tup, mg_nil, mg_cons, own0_own, startR_eq, wipe_0, wipe_1, back_0, back_1, ixN_3_0, ixN_3_1, ixN_3_2, szl, sze, wp_dict, eq_ww, ix_tv0, ix_tv1, tv_mk, mg_tv, tuple_tv, in_ww, isi_tv, len_tv, eq_tvs, index_w, at_w, ixw_not, eq_ints, told_ok', dix_w]
    refine (of_ok hx (by omega) (by simp) (by simp)).use fun y ys hy => ?_
    obtain ⟨hy, hys⟩ := hy
    have ⟨k, ek, hk0, hk1⟩ : ∃ k : Int, y = .int k ∧ 0 < k ∧ k < 18446744073709551616 := by
      simp at hy
      rcases hy with rfl | rfl | rfl <;> exact ⟨_, rfl, by decide, by decide⟩
    subst ek
    simp -implicitDefEqProofs only [Nat.reduceSub, Nat.reduceAdd, Int.reduceLT, Int.reduceLE, Int.reduceGT, Int.reduceGE, Int.reduceEq, Int.reducePow, Nat.reducePow, Nat.reduceMul, Int.reduceNeg, Int.reduceToNat, Int.reduceAbs, Int.reduceMod, Int.reduceDiv, Int.reduceAdd, Int.reduceSub, Int.reduceMul, Nat.reduceLT, Nat.reduceLeDiff, Nat.reduceEqDiff, decide_eq_true_eq, decide_true, decide_false, and_true, true_and, true_or, or_true, false_or, or_false, and_false, false_and, if_false, ite_true, ite_false, PV.int.injEq, PV.bl.injEq, exists_eq_left', Bool.not_true, Bool.not_false, Bool.false_eq_true, not_true_eq_false, not_false_eq_true, reduceCtorEq, Option.some.injEq, wp_ok, wp_exc, wp_bad, wo_some, wo_none, wo_if, wo_map, wo_bind, wp_of, ws_nx, ws_rt, ws_rf, ws_bk, ws_ct, ws_exc, ws_bad, wp_name, wp_c, wp_m2, wp_m1, wp_test, wp_truthN, wp_lenN, wp_ixN, wp_and, wp_or, wp_notT, wp_andV, wp_orV, wp_notV, wp_if, wp_ifF, wp_args0, wp_args1, wp_tup, wp_frz, wp_callB, wp_callF, wp_cat, wp_repL, wp_chain, wp_cut, wp_part0, wp_part1, wp_call, wp_callFr, wp_callBx, wp_popN, wp_index, wp_yes, wp_seqI, wp_range, wp_revI, wp_zip, ws_seq, ws_nil, ws_pass, ws_ret, ws_retF, ws_retN, ws_set, ws_setF, ws_if, ws_asg, ws_par, ws_par3, ws_parF, ws_aug, ws_append, ws_setIx, wpP_runP, wpF_runF, wpB_runB, wpP_ok, wpF_ok, wpP_exc, wpB_ok, ws_for', ws_forNil, wp_comp, wpC_nil, ev_g0, ev_gs, ev_gn, ev_s0, ev_ss, ev_m0, ev_m1, ev_a0, ev_a1, ev_r0, ev_rs, ev_l0, ev_l1, ev_d0, ev_d1, ev_ob, ev_om, ev_it, ev_if, ev_gl, ev_gl1, ev_dl, ev_dl1, ev_gla, ev_dla, add_ii, addI_ii, sub_ii, add_ll, add_tt, mod_ii, div_ii, pow_ii, mul_ii, mul_li, lt_ii, le_ii, gt_ii, ge_ii, neg_i, eq_ii, ne_ii, eq_bb, ne_bb, is_bb, isnot_bb, is_n, is_in, is_sn, is_bn, is_tn, is_ln, isnot_n, isnot_in, truth_b, truth_i, truth_l, truth_t, len_l, len_t, len_s, ix_l, ix_t, ix_s, seq_l, seq_t, seq_s, tuple_l, tuple_t, list_l, list_t, list_s, on1_p, abs_i, int_b, int_i, max_ii, min_ii, rev_l, rev_t, zip_ll, zip_tt, cat_ll, range_1, range_2, slot_0, slot_s, isi_int_i, isi_int_b, isi_bool_i, isi_bool_b, isi_tup_t, isi_tup_l, isi_lst_l, isi_lst_t, isi_str_s, isi_str_i, isi_str_b, isi_str_n, isi_lt_l, isi_lt_t, isi_lt_i, isi_lt_b, isi_lt_s, isi_lt_n, at_0, at_1, at_2, at_3, at_last, mg_name, mg_tup, mg_nil, mg_cons, own0_own, startR_eq, wipe_0, wipe_1, back_0, back_1, ixN_3_0, ixN_3_1, ixN_3_2, szl, sze, wp_dict, eq_ww, ix_tv0, ix_tv1, tv_mk, mg_tv, tuple_tv, in_ww, isi_tv, len_tv, eq_tvs, index_w, at_w, ixw_not, eq_ints, told_ok', dix_w]
    refine (take_ok hys (by omega) (by omega) (by omega)).use fun y zs hy => ?_
    obtain ⟨r, rfl, hr0, hr1, hzs⟩ := hy
    simp -implicitDefEqProofs only [Nat.reduceSub, Nat.reduceAdd, Int.reduceLT, Int.reduceLE, Int.reduceGT, Int.reduceGE, Int.reduceEq, Int.reducePow, Nat.reducePow, Nat.reduceMul, Int.reduceNeg, Int.reduceToNat, Int.reduceAbs, Int.reduceMod, Int.reduceDiv, Int.reduceAdd, Int.reduceSub, Int.reduceMul, Nat.reduceLT, Nat.reduceLeDiff, Nat.reduceEqDiff, decide_eq_true_eq, decide_true, decide_false, and_true, true_and, true_or, or_true, false_or, or_false, and_false, false_and, if_false, ite_true, ite_false, PV.int.injEq, PV.bl.injEq, exists_eq_left', Bool.not_true, Bool.not_false, Bool.false_eq_true, not_true_eq_false, not_false_eq_true, reduceCtorEq, Option.some.injEq, wp_ok, wp_exc, wp_bad, wo_some, wo_none, wo_if, wo_map, wo_bind, wp_of, ws_nx, ws_rt, ws_rf, ws_bk, ws_ct, ws_exc, ws_bad, wp_name, wp_c, wp_m2, wp_m1, wp_test, wp_truthN, wp_lenN, wp_ixN, wp_and, wp_or, wp_notT, wp_andV, wp_orV, wp_notV, wp_if, wp_ifF, wp_args0, wp_args1, wp_tup, wp_frz, wp_callB, wp_callF, wp_cat, wp_repL, wp_chain, wp_cut, wp_part0, wp_part1, wp_call, wp_callFr, wp_callBx, wp_popN, wp_index, wp_yes, wp_seqI, wp_range, wp_revI, wp_zip, ws_seq, ws_nil, ws_pass, ws_ret, ws_retF, ws_retN, ws_set, ws_setF, ws_if, ws_asg, ws_par, ws_par3, ws_parF, ws_aug, ws_append, ws_setIx, wpP_runP, wpF_runF, wpB_runB, wpP_ok, wpF_ok, wpP_exc, wpB_ok, ws_for', ws_forNil, wp_comp, wpC_nil, ev_g0, ev_gs, ev_gn, ev_s0, ev_ss, ev_m0, ev_m1, ev_a0, ev_a1, ev_r0, ev_rs, ev_l0, ev_l1, ev_d0, ev_d1, ev_ob, ev_om, ev_it, ev_if, ev_gl, ev_gl1, ev_dl, ev_dl1, ev_gla, ev_dla, add_ii, addI_ii, sub_ii, add_ll, add_tt, mod_ii, div_ii, pow_ii, mul_ii, mul_li, lt_ii, le_ii, gt_ii, ge_ii, neg_i, eq_ii, ne_ii, eq_bb, ne_bb, is_bb, isnot_bb, is_n, is_in, is_sn, is_bn, is_tn, is_ln, isnot_n, isnot_in, truth_b, truth_i, truth_l, truth_t, len_l, len_t, len_s, ix_l, ix_t, ix_s, seq_l, seq_t, seq_s, tuple_l, tuple_t, list_l, list_t, list_s, on1_p, abs_i, int_b, int_i, max_ii, min_ii, rev_l, rev_t, zip_ll, zip_tt, cat_ll, range_1, range_2, slot_0, slot_s, isi_int_i, isi_int_b, isi_bool_i, isi_bool_b, isi_tup_t, isi_tup_l, isi_lst_l, isi_lst_t, isi_str_s, isi_str_i, isi_str_b, isi_str_n, isi_lt_l, isi_lt_t, isi_lt_i, isi_lt_b, isi_lt_s, isi_lt_n, at_0, at_1, at_2, at_3, at_last, mg_name, mg_tup, mg_nil, mg_cons, own0_own, startR_eq, wipe_0, wipe_1, back_0, back_1, ixN_3_0, ixN_3_1, ixN_3_2, szl, sze, wp_dict, eq_ww, ix_tv0, ix_tv1, tv_mk, mg_tv, tuple_tv, in_ww, isi_tv, len_tv, eq_tvs, index_w, at_w, ixw_not, eq_ints, told_ok', dix_w]
    refine ws_forInv (fun i ρ => ∃ x1 x2 x3 x4, ρ = [.val (.scr ns), x1, x2, x3, x4]) ⟨_, _, _, _, rfl⟩ ?_ ?_
    · rintro i p ρ e ⟨x1, x2, x3, x4, rfl⟩
      have ⟨k, ek, hk0, hk1⟩ : ∃ k : Int, p = .int k ∧ 0 < k ∧ k < 18446744073709551616 := by
        have := List.mem_of_getElem? e
        simp at this
        rcases this with rfl | rfl | rfl
        · exact ⟨_, rfl, by decide, by decide⟩
        · exact ⟨_, rfl, hk0, hk1⟩
        · exact ⟨_, rfl, by omega, by omega⟩
      subst ek
      simp -implicitDefEqProofs only [Nat.reduceSub, Nat.reduceAdd, Int.reduceLT, Int.reduceLE, Int.reduceGT, Int.reduceGE, Int.reduceEq, Int.reducePow, Nat.reducePow, Nat.reduceMul, Int.reduceNeg, Int.reduceToNat, Int.reduceAbs, Int.reduceMod, Int.reduceDiv, Int.reduceAdd, Int.reduceSub, Int.reduceMul, Nat.reduceLT, Nat.reduceLeDiff, Nat.reduceEqDiff, decide_eq_true_eq, decide_true, decide_false, and_true, true_and, true_or, or_true, false_or, or_false, and_false, false_and, if_false, ite_true, ite_false, PV.int.injEq, PV.bl.injEq, exists_eq_left', Bool.not_true, Bool.not_false, Bool.false_eq_true, not_true_eq_false, not_false_eq_true, reduceCtorEq, Option.some.injEq, wp_ok, wp_exc, wp_bad, wo_some, wo_none, wo_if, wo_map, wo_bind, wp_of, ws_nx, ws_rt, ws_rf, ws_bk, ws_ct, ws_exc, ws_bad, wp_name, wp_c, wp_m2, wp_m1, wp_test, wp_truthN, wp_lenN, wp_ixN, wp_and, wp_or, wp_notT, wp_andV, wp_orV, wp_notV, wp_if, wp_ifF, wp_args0, wp_args1, wp_tup, wp_frz, wp_callB, wp_callF, wp_cat, wp_repL, wp_chain, wp_cut, wp_part0, wp_part1, wp_call, wp_callFr, wp_callBx, wp_popN, wp_index, wp_yes, wp_seqI, wp_range, wp_revI, wp_zip, ws_seq, ws_nil, ws_pass, ws_ret, ws_retF, ws_retN, ws_set, ws_setF, ws_if, ws_asg, ws_par, ws_par3, ws_parF, ws_aug, ws_append, ws_setIx, wpP_runP, wpF_runF, wpB_runB, wpP_ok, wpF_ok, wpP_exc, wpB_ok, ws_for', ws_forNil, wp_comp, wpC_nil, ev_g0, ev_gs, ev_gn, ev_s0, ev_ss, ev_m0, ev_m1, ev_a0, ev_a1, ev_r0, ev_rs, ev_l0, ev_l1, ev_d0, ev_d1, ev_ob, ev_om, ev_it, ev_if, ev_gl, ev_gl1, ev_dl, ev_dl1, ev_gla, ev_dla, add_ii, addI_ii, sub_ii, add_ll, add_tt, mod_ii, div_ii, pow_ii, mul_ii, mul_li, lt_ii, le_ii, gt_ii, ge_ii, neg_i, eq_ii, ne_ii, eq_bb, ne_bb, is_bb, isnot_bb, is_n, is_in, is_sn, is_bn, is_tn, is_ln, isnot_n, isnot_in, truth_b, truth_i, truth_l, truth_t, len_l, len_t, len_s, ix_l, ix_t, ix_s, seq_l, seq_t, seq_s, tuple_l, tuple_t, list_l, list_t, list_s, on1_p, abs_i, int_b, int_i, max_ii, min_ii, rev_l, rev_t, zip_ll, zip_tt, cat_ll, range_1, range_2, slot_0, slot_s, isi_int_i, isi_int_b, isi_bool_i, isi_bool_b, isi_tup_t, isi_tup_l, isi_lst_l, isi_lst_t, isi_str_s, isi_str_i, isi_str_b, isi_str_n, isi_lt_l, isi_lt_t, isi_lt_i, isi_lt_b, isi_lt_s, isi_lt_n, at_0, at_1, at_2, at_3, at_last, mg_name, mg_tup, mg_nil, mg_cons, own0_own, startR_eq, wipe_0, wipe_1, back_0, back_1, ixN_3_0, ixN_3_1, ixN_3_2, szl, sze, wp_dict, eq_ww, ix_tv0, ix_tv1, tv_mk, mg_tv, tuple_tv, in_ww, isi_tv, len_tv, eq_tvs, index_w, at_w, ixw_not, eq_ints, told_ok', dix_w]
      refine ws_forInv (fun i ρ => ∃ x4, ρ = [.val (.scr ns), x1, x2, .val (.int k), x4]) ⟨_, rfl⟩ ?_ ?_
      · rintro i p ρ e ⟨x4, rfl⟩
        have ⟨b, eb⟩ : ∃ b, p = .str (wy b) := by
          have := List.mem_of_getElem? e
          simp at this
          rcases this with rfl | rfl
          · exact ⟨true, rfl⟩
          · exact ⟨false, rfl⟩
        subst eb
        simp -implicitDefEqProofs only [Nat.reduceSub, Nat.reduceAdd, Int.reduceLT, Int.reduceLE, Int.reduceGT, Int.reduceGE, Int.reduceEq, Int.reducePow, Nat.reducePow, Nat.reduceMul, Int.reduceNeg, Int.reduceToNat, Int.reduceAbs, Int.reduceMod, Int.reduceDiv, Int.reduceAdd, Int.reduceSub, Int.reduceMul, Nat.reduceLT, Nat.reduceLeDiff, Nat.reduceEqDiff, decide_eq_true_eq, decide_true, decide_false, and_true, true_and, true_or, or_true, false_or, or_false, and_false, false_and, if_false, ite_true, ite_false, PV.int.injEq, PV.bl.injEq, exists_eq_left', Bool.not_true, Bool.not_false, Bool.false_eq_true, not_true_eq_false, not_false_eq_true, reduceCtorEq, Option.some.injEq, wp_ok, wp_exc, wp_bad, wo_some, wo_none, wo_if, wo_map, wo_bind, wp_of, ws_nx, ws_rt, ws_rf, ws_bk, ws_ct, ws_exc, ws_bad, wp_name, wp_c, wp_m2, wp_m1, wp_test, wp_truthN, wp_lenN, wp_ixN, wp_and, wp_or, wp_notT, wp_andV, wp_orV, wp_notV, wp_if, wp_ifF, wp_args0, wp_args1, wp_tup, wp_frz, wp_callB, wp_callF, wp_cat, wp_repL, wp_chain, wp_cut, wp_part0, wp_part1, wp_call, wp_callFr, wp_callBx, wp_popN, wp_index, wp_yes, wp_seqI, wp_range, wp_revI, wp_zip, ws_seq, ws_nil, ws_pass, ws_ret, ws_retF, ws_retN, ws_set, ws_setF, ws_if, ws_asg, ws_par, ws_par3, ws_parF, ws_aug, ws_append, ws_setIx, wpP_runP, wpF_runF, wpB_runB, wpP_ok, wpF_ok, wpP_exc, wpB_ok, ws_for', ws_forNil, wp_comp, wpC_nil, ev_g0, ev_gs, ev_gn, ev_s0, ev_ss, ev_m0, ev_m1, ev_a0, ev_a1, ev_r0, ev_rs, ev_l0, ev_l1, ev_d0, ev_d1, ev_ob, ev_om, ev_it, ev_if, ev_gl, ev_gl1, ev_dl, ev_dl1, ev_gla, ev_dla, add_ii, addI_ii, sub_ii, add_ll, add_tt, mod_ii, div_ii, pow_ii, mul_ii, mul_li, lt_ii, le_ii, gt_ii, ge_ii, neg_i, eq_ii, ne_ii, eq_bb, ne_bb, is_bb, isnot_bb, is_n, is_in, is_sn, is_bn, is_tn, is_ln, isnot_n, isnot_in, truth_b, truth_i, truth_l, truth_t, len_l, len_t, len_s, ix_l, ix_t, ix_s, seq_l, seq_t, seq_s, tuple_l, tuple_t, list_l, list_t, list_s, on1_p, abs_i, int_b, int_i, max_ii, min_ii, rev_l, rev_t, zip_ll, zip_tt, cat_ll, range_1, range_2, slot_0, slot_s, isi_int_i, isi_int_b, isi_bool_i, isi_bool_b, isi_tup_t, isi_tup_l, isi_lst_l, isi_lst_t, isi_str_s, isi_str_i, isi_str_b, isi_str_n, isi_lt_l, isi_lt_t, isi_lt_i, isi_lt_b, isi_lt_s, isi_lt_n, at_0, at_1, at_2, at_3, at_last, mg_name, mg_tup, mg_nil, mg_cons, own0_own, startR_eq, wipe_0, wipe_1, back_0, back_1, ixN_3_0, ixN_3_1, ixN_3_2, szl, sze, wp_dict, eq_ww, ix_tv0, ix_tv1, tv_mk, mg_tv, tuple_tv, in_ww, isi_tv, len_tv, eq_tvs, index_w, at_w, ixw_not, eq_ints, told_ok', dix_w, known_ok k b hk0 hk1, joined_ok k b hk0 hk1]
        exact ⟨_, rfl⟩
      · rintro ρ ⟨x4, rfl⟩
        exact ⟨_, _, _, _, rfl⟩
    · rintro ρ ⟨x1, x2, x3, x4, rfl⟩
      exact ⟨_, _, _, _, rfl⟩
  · rintro ρ ⟨a, b, c, d, rfl⟩
    simp -implicitDefEqProofs only [Nat.reduceSub, Nat.reduceAdd, Int.reduceLT, Int.reduceLE, Int.reduceGT, Int.reduceGE, Int.reduceEq, Int.reducePow, Nat.reducePow, Nat.reduceMul, Int.reduceNeg, Int.reduceToNat, Int.reduceAbs, Int.reduceMod, Int.reduceDiv, Int.reduceAdd, Int.reduceSub, Int.reduceMul, Nat.reduceLT, Nat.reduceLeDiff, Nat.reduceEqDiff, decide_eq_true_eq, decide_true, decide_false, and_true, true_and, true_or, or_true, false_or, or_false, and_false, false_and, if_false, ite_true, ite_false, PV.int.injEq, PV.bl.injEq, exists_eq_left', Bool.not_true, Bool.not_false, Bool.false_eq_true, not_true_eq_false, not_false_eq_true, reduceCtorEq, Option.some.injEq, wp_ok, wp_exc, wp_bad, wo_some, wo_none, wo_if, wo_map, wo_bind, wp_of, ws_nx, ws_rt, ws_rf, ws_bk, ws_ct, ws_exc, ws_bad, wp_name, wp_c, wp_m2, wp_m1, wp_test, wp_truthN, wp_lenN, wp_ixN, wp_and, wp_or, wp_notT, wp_andV, wp_orV, wp_notV, wp_if, wp_ifF, wp_args0, wp_args1, wp_tup, wp_frz, wp_callB, wp_callF, wp_cat, wp_repL, wp_chain, wp_cut, wp_part0, wp_part1, wp_call, wp_callFr, wp_callBx, wp_popN, wp_index, wp_yes, wp_seqI, wp_range, wp_revI, wp_zip, ws_seq, ws_nil, ws_pass, ws_ret, ws_retF, ws_retN, ws_set, ws_setF, ws_if, ws_asg, ws_par, ws_par3, ws_parF, ws_aug, ws_append, ws_setIx, wpP_runP, wpF_runF, wpB_runB, wpP_ok, wpF_ok, wpP_exc, wpB_ok, ws_for', ws_forNil, wp_comp, wpC_nil, ev_g0, ev_gs, ev_gn, ev_s0, ev_ss, ev_m0, ev_m1, ev_a0, ev_a1, ev_r0, ev_rs, ev_l0, ev_l1, ev_d0, ev_d1, ev_ob, ev_om, ev_it, ev_if, ev_gl, ev_gl1, ev_dl, ev_dl1, ev_gla, ev_dla, add_ii, addI_ii, sub_ii, add_ll, add_tt, mod_ii, div_ii, pow_ii, mul_ii, mul_li, lt_ii, le_ii, gt_ii, ge_ii, neg_i, eq_ii, ne_ii, eq_bb, ne_bb, is_bb, isnot_bb, is_n, is_in, is_sn, is_bn, is_tn, is_ln, isnot_n, isnot_in, truth_b, truth_i, truth_l, truth_t, len_l, len_t, len_s, ix_l, ix_t, ix_s, seq_l, seq_t, seq_s, tuple_l, tuple_t, list_l, list_t, list_s, on1_p, abs_i, int_b, int_i, max_ii, min_ii, rev_l, rev_t, zip_ll, zip_tt, cat_ll, range_1, range_2, slot_0, slot_s, isi_int_i, isi_int_b, isi_bool_i, isi_bool_b, isi_tup_t, isi_tup_l, isi_lst_l, isi_lst_t, isi_str_s, isi_str_i, isi_str_b, isi_str_n, isi_lt_l, isi_lt_t, isi_lt_i, isi_lt_b, isi_lt_s, isi_lt_n, at_0, at_1, at_2, at_3, at_last, mg_name, mg_tup, mg_nil, mg_cons, own0_own, startR_eq, wipe_0, wipe_1, back_0, back_1, ixN_3_0, ixN_3_1, ixN_3_2, szl, sze, wp_dict, eq_ww, ix_tv0, ix_tv1, tv_mk, mg_tv, tuple_tv, in_ww, isi_tv, len_tv, eq_tvs, index_w, at_w, ixw_not, eq_ints, told_ok', dix_w]
end Ev

set_option maxHeartbeats 4000000
set_option Elab.async false
set_option linter.all false
set_option maxRecDepth 100000
set_option maxHeartbeats 0
namespace Ev
open PySem L2 PyProof.Rows
def hFa0 : List He.Fa := [.glo "is_number", .keep "is_number", .glo "is_turn", .keep "is_turn", .glo "is_turns", .keep "is_turns", .glo "joined", .keep "joined", .glo "forgets", .keep "forgets", .glo "with_turn", .keep "with_turn", .glo "forgotten", .keep "forgotten", .glo "is_forgotten", .keep "is_forgotten", .glo "so_often", .keep "so_often", .glo "_law_box", .keep "_law_box", .glo "_law_take", .keep "_law_take", .glo "_law_same", .keep "_law_same", .glo "_law_of", .keep "_law_of", .glo "_law_told", .keep "_law_told", .glo "_law_known_right", .keep "_law_known_right", .glo "_law_joined_right", .keep "_law_joined_right", .glo "law", .keep "law", .free "abs", .free "all"]
def hFa1 : List He.Fa := [.free "bool", .free "int", .free "isinstance", .free "len", .free "list", .free "max", .free "min", .free "range", .free "str", .free "tuple", .free "zip", .str "FORTH" "forth", .str "BACK" "back"]
def hFa : List He.Fa := hFa0 ++ hFa1
def hFn0 : List He.FnD := [⟨("is_number", none), "is_number", "is_number", defArgs st_is_number, defBody st_is_number, defScope st_is_number⟩, ⟨("is_turn", none), "is_turn", "is_turn", defArgs st_is_turn, defBody st_is_turn, defScope st_is_turn⟩, ⟨("is_turns", none), "is_turns", "is_turns", defArgs st_is_turns, defBody st_is_turns, defScope st_is_turns⟩, ⟨("joined", none), "joined", "joined", defArgs st_joined, defBody st_joined, defScope st_joined⟩, ⟨("forgets", none), "forgets", "forgets", defArgs st_forgets, defBody st_forgets, defScope st_forgets⟩, ⟨("with_turn", none), "with_turn", "with_turn", defArgs st_with_turn, defBody st_with_turn, defScope st_with_turn⟩, ⟨("forgotten", none), "forgotten", "forgotten", defArgs st_forgotten, defBody st_forgotten, defScope st_forgotten⟩, ⟨("is_forgotten", none), "is_forgotten", "is_forgotten", defArgs st_is_forgotten, defBody st_is_forgotten, defScope st_is_forgotten⟩, ⟨("so_often", none), "so_often", "so_often", defArgs st_so_often, defBody st_so_often, defScope st_so_often⟩, ⟨("_law_box", none), "_law_box", "_law_box", defArgs st__law_box, defBody st__law_box, defScope st__law_box⟩, ⟨("_law_take", none), "_law_take", "_law_take", defArgs st__law_take, defBody st__law_take, defScope st__law_take⟩, ⟨("_law_same", none), "_law_same", "_law_same", defArgs st__law_same, defBody st__law_same, defScope st__law_same⟩, ⟨("_law_of", none), "_law_of", "_law_of", defArgs st__law_of, defBody st__law_of, defScope st__law_of⟩, ⟨("_law_told", none), "_law_told", "_law_told", defArgs st__law_told, defBody st__law_told, defScope st__law_told⟩, ⟨("_law_known_right", none), "_law_known_right", "_law_known_right", defArgs st__law_known_right, defBody st__law_known_right, defScope st__law_known_right⟩, ⟨("_law_joined_right", none), "_law_joined_right", "_law_joined_right", defArgs st__law_joined_right, defBody st__law_joined_right, defScope st__law_joined_right⟩, ⟨("law", none), "law", "law", defArgs st_law, defBody st_law, defScope st_law⟩]
def hFn : List He.FnD := hFn0
def hLo0 : List Str := ["is_number", "is_turn", "is_turns", "joined", "forgets", "with_turn", "forgotten", "is_forgotten", "so_often", "_law_box", "_law_take", "_law_same", "_law_of", "_law_told", "_law_known_right", "_law_joined_right", "FORTH", "BACK"]
def hLo : List Str := hLo0
abbrev hR : PySem.W.OpenRow := PySem.W.OpenLaw.row PySem.Challenge.rw_forthback_k16_turns_known_by_hand
abbrev hQ : Program := PySem.W.view hR.prog [21]
abbrev hHk : PySem.W.Hook := He.hookE 4 hFa hFn
def hOb (s : PySem.W.SharedT) : He.Al := He.obsG 4 hFa hFn (HandSHeadRun.getT s)
theorem hOb_eq (s : PySem.W.SharedT) : hOb s = hHk.obs s.abs := He.obsG_eq (HandSHeadRun.getT_eq s)
theorem hRun (w : World) : HandSHeadRun.RunEq hR hQ hHk hOb 3700 hLo w := by
  intro os
  kernel_rfl
theorem hTop {K : PySem.W.Frag} {mg : Str → Option Value} {h : Heap} (X : K.In h) (G : h.Ns mainGlobals mg) (c : He.SaysE hFa hFn K) : Nonempty (Top K mg) := by
  obtain ⟨fd_is_number, d_is_number⟩ := def_at (x := "is_number") (st := st_is_number) (ps := ["thing"]) X G c 0 0 rfl rfl rfl (fun _ _ _ _ _ _ us hl => match us, hl with | [_], _ => rfl)
  obtain ⟨fd_is_turn, d_is_turn⟩ := def_at (x := "is_turn") (st := st_is_turn) (ps := ["thing"]) X G c 1 2 rfl rfl rfl (fun _ _ _ _ _ _ us hl => match us, hl with | [_], _ => rfl)
  obtain ⟨fd_is_turns, d_is_turns⟩ := def_at (x := "is_turns") (st := st_is_turns) (ps := ["thing"]) X G c 2 4 rfl rfl rfl (fun _ _ _ _ _ _ us hl => match us, hl with | [_], _ => rfl)
  obtain ⟨fd_joined, d_joined⟩ := def_at (x := "joined") (st := st_joined) (ps := ["turns"]) X G c 3 6 rfl rfl rfl (fun _ _ _ _ _ _ us hl => match us, hl with | [_], _ => rfl)
  obtain ⟨fd_forgets, d_forgets⟩ := def_at (x := "forgets") (st := st_forgets) (ps := ["turns"]) X G c 4 8 rfl rfl rfl (fun _ _ _ _ _ _ us hl => match us, hl with | [_], _ => rfl)
  obtain ⟨fd_with_turn, d_with_turn⟩ := def_at (x := "with_turn") (st := st_with_turn) (ps := ["found", "turn"]) X G c 5 10 rfl rfl rfl (fun _ _ _ _ _ _ us hl => match us, hl with | [_, _], _ => rfl)
  obtain ⟨fd_forgotten, d_forgotten⟩ := def_at (x := "forgotten") (st := st_forgotten) (ps := ["turns"]) X G c 6 12 rfl rfl rfl (fun _ _ _ _ _ _ us hl => match us, hl with | [_], _ => rfl)
  obtain ⟨fd_is_forgotten, d_is_forgotten⟩ := def_at (x := "is_forgotten") (st := st_is_forgotten) (ps := ["thing"]) X G c 7 14 rfl rfl rfl (fun _ _ _ _ _ _ us hl => match us, hl with | [_], _ => rfl)
  obtain ⟨fd_so_often, d_so_often⟩ := def_at (x := "so_often") (st := st_so_often) (ps := ["turns", "many"]) X G c 8 16 rfl rfl rfl (fun _ _ _ _ _ _ us hl => match us, hl with | [_, _], _ => rfl)
  obtain ⟨fd__law_box, d__law_box⟩ := def_at (x := "_law_box") (st := st__law_box) (ps := ["_law_script", "_law_k"]) X G c 9 18 rfl rfl rfl (fun _ _ _ _ _ _ us hl => match us, hl with | [_, _], _ => rfl)
  obtain ⟨fd__law_take, d__law_take⟩ := def_at (x := "_law_take") (st := st__law_take) (ps := ["_law_box_here", "_law_bound"]) X G c 10 20 rfl rfl rfl (fun _ _ _ _ _ _ us hl => match us, hl with | [_, _], _ => rfl)
  obtain ⟨fd__law_same, d__law_same⟩ := def_at (x := "_law_same") (st := st__law_same) (ps := ["_law_found", "_law_due"]) X G c 11 22 rfl rfl rfl (fun _ _ _ _ _ _ us hl => match us, hl with | [_, _], _ => rfl)
  obtain ⟨fd__law_of, d__law_of⟩ := def_at (x := "_law_of") (st := st__law_of) (ps := ["_law_box_here", "_law_some"]) X G c 12 24 rfl rfl rfl (fun _ _ _ _ _ _ us hl => match us, hl with | [_, _], _ => rfl)
  obtain ⟨fd__law_told, d__law_told⟩ := def_at (x := "_law_told") (st := st__law_told) (ps := ["_law_some", "_law_by", "_law_sense"]) X G c 13 26 rfl rfl rfl (fun _ _ _ _ _ _ us hl => match us, hl with | [_, _, _], _ => rfl)
  obtain ⟨fd__law_known_right, d__law_known_right⟩ := def_at (x := "_law_known_right") (st := st__law_known_right) (ps := ["_law_by", "_law_sense"]) X G c 14 28 rfl rfl rfl (fun _ _ _ _ _ _ us hl => match us, hl with | [_, _], _ => rfl)
  obtain ⟨fd__law_joined_right, d__law_joined_right⟩ := def_at (x := "_law_joined_right") (st := st__law_joined_right) (ps := ["_law_by", "_law_sense"]) X G c 15 30 rfl rfl rfl (fun _ _ _ _ _ _ us hl => match us, hl with | [_, _], _ => rfl)
  obtain ⟨fd_law, d_law⟩ := def_at (x := "law") (st := st_law) (ps := ["_law_script"]) X G c 16 32 rfl rfl rfl (fun _ _ _ _ _ _ us hl => match us, hl with | [_], _ => rfl)
  exact ⟨{ f_is_number := _, fd_is_number := fd_is_number, d_is_number := d_is_number, f_is_turn := _, fd_is_turn := fd_is_turn, d_is_turn := d_is_turn, f_is_turns := _, fd_is_turns := fd_is_turns, d_is_turns := d_is_turns, f_joined := _, fd_joined := fd_joined, d_joined := d_joined, f_forgets := _, fd_forgets := fd_forgets, d_forgets := d_forgets, f_with_turn := _, fd_with_turn := fd_with_turn, d_with_turn := d_with_turn, f_forgotten := _, fd_forgotten := fd_forgotten, d_forgotten := d_forgotten, f_is_forgotten := _, fd_is_forgotten := fd_is_forgotten, d_is_forgotten := d_is_forgotten, f_so_often := _, fd_so_often := fd_so_often, d_so_often := d_so_often, f__law_box := _, fd__law_box := fd__law_box, d__law_box := d__law_box, f__law_take := _, fd__law_take := fd__law_take, d__law_take := d__law_take, f__law_same := _, fd__law_same := fd__law_same, d__law_same := d__law_same, f__law_of := _, fd__law_of := fd__law_of, d__law_of := d__law_of, f__law_told := _, fd__law_told := fd__law_told, d__law_told := d__law_told, f__law_known_right := _, fd__law_known_right := fd__law_known_right, d__law_known_right := d__law_known_right, f__law_joined_right := _, fd__law_joined_right := fd__law_joined_right, d__law_joined_right := d__law_joined_right, f_law := _, fd_law := fd_law, d_law := d_law, z_abs := He.free_ok X G (c.fact 34 rfl), z_all := He.free_ok X G (c.fact 35 rfl), z_bool := He.free_ok X G (c.fact 36 rfl), z_int := He.free_ok X G (c.fact 37 rfl), z_isinstance := He.free_ok X G (c.fact 38 rfl), z_len := He.free_ok X G (c.fact 39 rfl), z_list := He.free_ok X G (c.fact 40 rfl), z_max := He.free_ok X G (c.fact 41 rfl), z_min := He.free_ok X G (c.fact 42 rfl), z_range := He.free_ok X G (c.fact 43 rfl), z_str := He.free_ok X G (c.fact 44 rfl), z_tuple := He.free_ok X G (c.fact 45 rfl), z_zip := He.free_ok X G (c.fact 46 rfl), g_FORTH := He.str_ok X G (c.fact 47 rfl), g_BACK := He.str_ok X G (c.fact 48 rfl) }⟩
end Ev
open PySem PySem.W PySem.Calls PyProof.Rows
theorem PySem.Challenge.cw_forthback_k16_turns_known_by_hand_holds : PySem.Challenge.rw_forthback_k16_turns_known_by_hand.Holds := by
  w_on; o_law
  refine HandSHeadRun.head_any (r := Ev.hR) (q := Ev.hQ) (H := Ev.hHk) (ob := Ev.hOb) (loose := Ev.hLo) (d := HandSHeadRun.topDef Ev.hR.prog 21) (kwd := []) Ev.hOb_eq
    (by kernel_rfl) (fun s => by kernel_rfl) Ev.hRun (by kernel_rfl) (by kernel_rfl) (by kernel_rfl) (by rfl) (by first | assumption | decide +kernel) (by decide +kernel) ⟨rfl, rfl, rfl, rfl, rfl, by decide +kernel⟩ ?hw ?hc
  case hw => w_witness2
  case hc =>
    refine L2.walk_ofE (l := PySem.Challenge.rw_forthback_k16_turns_known_by_hand) (n := 63) (k := 8) (x := "_law_script") (CX := L2.CX0) rfl (by decide) (by kernel_rfl) ⟨rfl, by decide, by decide⟩ ?F (fun _ _ _ _ z => z)
    intro w mg fa h Y G hmg0
    obtain ⟨K, KX, c⟩ := Y
    have hmg : mg ("law" : PySem.Str) = some (.ref fa) := by
      have e : (HandSHeadRun.topDef Ev.hR.prog 21).name = ("law" : PySem.Str) := by kernel_rfl
      rw [← e]; exact hmg0
    obtain ⟨T⟩ := Ev.hTop KX G c
    exact Ev.law_end KX hmg T.d_law (fun base => Ev.ok_law T) Ev.law_k16

