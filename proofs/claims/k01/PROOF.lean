import PyProof.Rows.All
import Wide.All
import OpenK.AllK
import Wide.FinOn
import HandS.ForMost
import HandS.Flow
import HandS.Exc
import HandS.ExcOwn
import HandS.ExcInit
import HandS.Defaults
import HandS.HeadHook1
import HandS.HeadHook2
import HandS.Zip
import HandS.Wide
import HandS.IsInst
import HandS.Deep
import KE.KExcSuper
import KE.KSuper
import HandS.ExcSuper
import HandS.ExcValue
import HandS.TryMany
import HandS.ExcField
import KE.KExcIs
import KE.KStateDown
import HandS.Words
import HandS.WordsExc
import HandS.Head0
import HandS.Head1
import HandS.Head2
import HandS.HeadEnd
import PySem.Challenge.RW_gapborn_k01_errors_by_themselves
set_option Elab.async false
set_option linter.all false
set_option maxRecDepth 100000
set_option maxHeartbeats 2000000
/-! DL1: data trees D, what they stand for in an abstract heap (Rep), the slots of a def by data (RS). -/
namespace DL
open PySem L2

/-- data: what a value is through and through. dct: keys, values; obj: an instance of the class of that global name, its fields; exc: an own exception, not raised; ty: a built-in type; frl: a list that nobody changes (the script, a module's list) -/
inductive D where
  | non | bl (b : Bool) | int (i : Int) | str (s : Str)
  | tup (l : List D) | lst (l : List D) | dct (ks : List Key) (l : List D) | obj (c : Str) (ns : List Str) (l : List D)
  | glo (x : Str)
  | exc (c : Str) (ns : List Str) (l : List D)
  | ty (n : String)
  | frl (l : List D)

mutual
def Rep (K : PySem.W.Frag) (H : Hp) : D → V → Prop
  | .non, v => v = .non
  | .bl b, v => v = .bl b
  | .int i, v => v = .int i
  | .str s, v => v = .str s
  | .tup l, v => ∃ a xs, v = .ref a ∧ SqT K H a xs ∧ Reps K H l xs
  | .lst l, v => ∃ a xs, v = .ref a ∧ H a = some (.lst xs) ∧ Reps K H l xs
  | .dct ks l, v => ∃ a kvs, v = .ref a ∧ H a = some (.dK kvs) ∧ kvs.map (·.1) = ks ∧ Reps K H l (kvs.map (·.2))
  | .obj c ns l, v => ∃ a dx fs, v = .ref a ∧ H a = some (.ins (He.ga K c) dx fs) ∧ H dx = some (.own a) ∧ fs.map (·.1) = ns ∧ Reps K H l (fs.map (·.2))
  | .glo x, v => v = .ref (He.ga K x)
  | .exc c ns l, v => ∃ a dx fs, v = .ref a ∧ H a = some (exo a (He.ga K c) (some dx)) ∧ H dx = some (.xd fs) ∧ fs.map (·.1) = ns ∧ Reps K H l (fs.map (·.2))
  | .ty n, v => v = .ty n
  | .frl l, v => ∃ a xs, v = .ref a ∧ SqL K H a xs ∧ Reps K H l xs
def Reps (K : PySem.W.Frag) (H : Hp) : List D → List V → Prop
  | [], xs => xs = []
  | d :: l, xs => ∃ v r, xs = v :: r ∧ Rep K H d v ∧ Reps K H l r
end

theorem Same.seqT {K : PySem.W.Frag} {H H' : Hp} {a : Addr} {xs : List V} (e : Same H H') (h : SqT K H a xs) : SqT K H' a xs := by
  rcases h with (h | ⟨o, h⟩) | h
  · exact .inl (.inl (e _ _ h))
  · exact .inl (.inr ⟨o, e _ _ h⟩)
  · exact .inr h

theorem Same.seqL {K : PySem.W.Frag} {H H' : Hp} {a : Addr} {xs : List V} (e : Same H H') (h : SqL K H a xs) : SqL K H' a xs := by
  rcases h with (h | ⟨o, h⟩) | h
  · exact .inl (.inl (e _ _ h))
  · exact .inl (.inr ⟨o, e _ _ h⟩)
  · exact .inr h

mutual
theorem Rep.mono {K : PySem.W.Frag} {H H' : Hp} (e : Same H H') : ∀ {d : D} {v : V}, Rep K H d v → Rep K H' d v
  | .non, v, h => h
  | .bl b, v, h => h
  | .int i, v, h => h
  | .str s, v, h => h
  | .tup l, v, h => by
    simp only [Rep] at h ⊢
    obtain ⟨a, xs, rfl, h1, h2⟩ := h
    exact ⟨a, xs, rfl, Same.seqT e h1, Reps.mono e h2⟩
  | .lst l, v, h => by
    simp only [Rep] at h ⊢
    obtain ⟨a, xs, rfl, h1, h2⟩ := h
    exact ⟨a, xs, rfl, e _ _ h1, Reps.mono e h2⟩
  | .dct ks l, v, h => by
    simp only [Rep] at h ⊢
    obtain ⟨a, xs, rfl, h1, h3, h2⟩ := h
    exact ⟨a, xs, rfl, e _ _ h1, h3, Reps.mono e h2⟩
  | .obj c ns l, v, h => by
    simp only [Rep] at h ⊢
    obtain ⟨a, dx, fs, rfl, h1, h4, h3, h2⟩ := h
    exact ⟨a, dx, fs, rfl, e _ _ h1, e _ _ h4, h3, Reps.mono e h2⟩
  | .glo x, v, h => h
  | .exc c ns l, v, h => by
    simp only [Rep] at h ⊢
    obtain ⟨a, dx, fs, rfl, h1, h4, h3, h2⟩ := h
    exact ⟨a, dx, fs, rfl, e _ _ h1, e _ _ h4, h3, Reps.mono e h2⟩
  | .ty n, v, h => h
  | .frl l, v, h => by
    simp only [Rep] at h ⊢
    obtain ⟨a, xs, rfl, h1, h2⟩ := h
    exact ⟨a, xs, rfl, Same.seqL e h1, Reps.mono e h2⟩
theorem Reps.mono {K : PySem.W.Frag} {H H' : Hp} (e : Same H H') : ∀ {l : List D} {xs : List V}, Reps K H l xs → Reps K H' l xs
  | [], xs, h => h
  | d :: l, xs, h => by
    simp only [Reps] at h ⊢
    obtain ⟨v, r, rfl, h1, h2⟩ := h
    exact ⟨v, r, rfl, Rep.mono e h1, Reps.mono e h2⟩
end

section
variable {K : PySem.W.Frag} {H : Hp}
theorem Reps.len : ∀ {l : List D} {xs : List V}, Reps K H l xs → xs.length = l.length
  | [], xs, h => by
    simp only [Reps] at h
    rw [h]
    rfl
  | d :: l, xs, h => by
    simp only [Reps] at h
    obtain ⟨v, r, rfl, h1, h2⟩ := h
    rw [List.length_cons, List.length_cons, Reps.len h2]
theorem Reps.get : ∀ {l : List D} {xs : List V} {i : Nat} {d : D}, Reps K H l xs → l[i]? = some d → ∃ v, xs[i]? = some v ∧ Rep K H d v
  | [], xs, i, d, h, e => by simp at e
  | d0 :: l, xs, i, d, h, e => by
    simp only [Reps] at h
    obtain ⟨v, r, rfl, h1, h2⟩ := h
    cases i with
    | zero =>
      simp at e
      subst e
      exact ⟨v, rfl, h1⟩
    | succ i =>
      simp at e
      obtain ⟨w, e1, e2⟩ := Reps.get (i := i) h2 e
      exact ⟨w, by simpa using e1, e2⟩
theorem Reps.get' : ∀ {l : List D} {xs : List V} {i : Nat} {v : V}, Reps K H l xs → xs[i]? = some v → ∃ d, l[i]? = some d ∧ Rep K H d v
  | [], xs, i, v, h, e => by
    simp only [Reps] at h
    subst h
    simp at e
  | d0 :: l, xs, i, v, h, e => by
    simp only [Reps] at h
    obtain ⟨w, r, rfl, h1, h2⟩ := h
    cases i with
    | zero =>
      simp at e
      subst e
      exact ⟨d0, rfl, h1⟩
    | succ i =>
      simp at e
      obtain ⟨d, e1, e2⟩ := Reps.get' (i := i) h2 e
      exact ⟨d, by simpa using e1, e2⟩
theorem Reps.nil : Reps K H [] [] := by simp only [Reps]
theorem Reps.cons {d : D} {l : List D} {v : V} {xs : List V} (h : Rep K H d v) (t : Reps K H l xs) : Reps K H (d :: l) (v :: xs) := by
  simp only [Reps]
  exact ⟨v, xs, rfl, h, t⟩
theorem Reps.app : ∀ {l m : List D} {xs ys : List V}, Reps K H l xs → Reps K H m ys → Reps K H (l ++ m) (xs ++ ys)
  | [], m, xs, ys, h, t => by
    simp only [Reps] at h
    subst h
    exact t
  | d :: l, m, xs, ys, h, t => by
    simp only [Reps] at h
    obtain ⟨v, r, rfl, h1, h2⟩ := h
    exact Reps.cons h1 (Reps.app h2 t)
theorem Reps.one {d : D} {v : V} (h : Rep K H d v) : Reps K H [d] [v] := .cons h .nil
theorem Reps.take : ∀ {l : List D} {xs : List V} (n : Nat), Reps K H l xs → Reps K H (l.take n) (xs.take n)
  | l, xs, 0, h => by simpa using Reps.nil
  | [], xs, n + 1, h => by
    simp only [Reps] at h
    subst h
    simpa using Reps.nil
  | d :: l, xs, n + 1, h => by
    simp only [Reps] at h
    obtain ⟨v, r, rfl, h1, h2⟩ := h
    exact Reps.cons h1 (Reps.take n h2)
theorem Reps.drop : ∀ {l : List D} {xs : List V} (n : Nat), Reps K H l xs → Reps K H (l.drop n) (xs.drop n)
  | l, xs, 0, h => h
  | [], xs, n + 1, h => by
    simp only [Reps] at h
    subst h
    simpa using Reps.nil
  | d :: l, xs, n + 1, h => by
    simp only [Reps] at h
    obtain ⟨v, r, rfl, h1, h2⟩ := h
    exact Reps.drop n h2
theorem Reps.set {d : D} {v : V} (hv : Rep K H d v) : ∀ {l : List D} {xs : List V} (n : Nat), Reps K H l xs → Reps K H (l.set n d) (xs.set n v)
  | [], xs, n, h => by
    simp only [Reps] at h
    subst h
    simpa using Reps.nil
  | d0 :: l, xs, 0, h => by
    simp only [Reps] at h
    obtain ⟨w, r, rfl, h1, h2⟩ := h
    exact Reps.cons hv h2
  | d0 :: l, xs, n + 1, h => by
    simp only [Reps] at h
    obtain ⟨w, r, rfl, h1, h2⟩ := h
    exact Reps.cons h1 (Reps.set hv n h2)
theorem Reps.rev {l : List D} {xs : List V} (h : Reps K H l xs) : Reps K H l.reverse xs.reverse := by
  induction l generalizing xs with
  | nil =>
    simp only [Reps] at h
    subst h
    simpa using Reps.nil
  | cons d l ih =>
    simp only [Reps] at h
    obtain ⟨v, r, rfl, h1, h2⟩ := h
    rw [List.reverse_cons, List.reverse_cons]
    exact Reps.app (ih h2) (Reps.one h1)
end

/-! ### mutable objects -/
/-- the object at a, told by c, stands apart from the frozen part Hf; N: what holds of an instance's own dict's address -/
def Cell (K : PySem.W.Frag) (N : Addr → Prop) (Hf H : Hp) : D → Addr → Prop
  | .lst l, a => Hf a = none ∧ ∃ xs, H a = some (.lst xs) ∧ Reps K Hf l xs
  | .dct ks l, a => Hf a = none ∧ ∃ kvs, H a = some (.dK kvs) ∧ kvs.map (·.1) = ks ∧ Reps K Hf l (kvs.map (·.2))
  | .obj c ns l, a => Hf a = none ∧ ∃ dx fs, H a = some (.ins (He.ga K c) dx fs) ∧ H dx = some (.own a) ∧ Hf dx = none ∧ N dx ∧ fs.map (·.1) = ns ∧ Reps K Hf l (fs.map (·.2))
  | _, _ => False
theorem Cell.free {K : PySem.W.Frag} {N : Addr → Prop} {Hf H : Hp} {c : D} {a : Addr} (h : Cell K N Hf H c a) : Hf a = none := by
  cases c <;> first | exact h.1 | exact h.elim
theorem Cell.there {K : PySem.W.Frag} {N : Addr → Prop} {Hf H : Hp} {c : D} {a : Addr} (h : Cell K N Hf H c a) : ∃ o, H a = some o := by
  cases c with
  | lst l => exact ⟨_, h.2.choose_spec.1⟩
  | dct ks l => exact ⟨_, h.2.choose_spec.1⟩
  | obj c ns l =>
    obtain ⟨_, dx, fs, e, _⟩ := h
    exact ⟨_, e⟩
  | _ => exact h.elim
/-- it stays while its own objects and the frozen part stay -/
theorem Cell.keep {K : PySem.W.Frag} {N N' : Addr → Prop} {Hf H Hf' H' : Hp} {c : D} {a : Addr} (h : Cell K N Hf H c a) (e : Same Hf Hf') (k : ∀ b o, H b = some o → Hf b = none → (b = a ∨ o = .own a) → H' b = some o ∧ Hf' b = none) (hN : ∀ dx, N dx → H dx = some (.own a) → N' dx := by exact fun _ z _ => z) : Cell K N' Hf' H' c a := by
  cases c with
  | lst l =>
    obtain ⟨h0, xs, h1, h2⟩ := h
    obtain ⟨k1, k2⟩ := k a _ h1 h0 (.inl rfl)
    exact ⟨k2, xs, k1, Reps.mono e h2⟩
  | dct ks l =>
    obtain ⟨h0, xs, h1, h3, h2⟩ := h
    obtain ⟨k1, k2⟩ := k a _ h1 h0 (.inl rfl)
    exact ⟨k2, xs, k1, h3, Reps.mono e h2⟩
  | obj c ns l =>
    obtain ⟨h0, dx, fs, h1, h4, h5, h6, h3, h2⟩ := h
    obtain ⟨k1, k2⟩ := k a _ h1 h0 (.inl rfl)
    obtain ⟨k3, k4⟩ := k dx _ h4 h5 (.inr rfl)
    exact ⟨k2, dx, fs, k1, k3, k4, hN _ h6 h4, h3, Reps.mono e h2⟩
  | _ => exact h.elim
theorem Cell.any {K : PySem.W.Frag} {N : Addr → Prop} {Hf H : Hp} {c : D} {a : Addr} (h : Cell K N Hf H c a) : Cell K (fun _ => True) Hf H c a :=
  h.keep (Same.refl _) (fun _ _ e1 e2 _ => ⟨e1, e2⟩) fun _ _ _ => trivial
/-- the object's address is none of an own dict's -/
theorem Cell.notOwn {K : PySem.W.Frag} {N : Addr → Prop} {Hf H : Hp} {c : D} {a x : Addr} (h : Cell K N Hf H c a) : H a ≠ some (.own x) := fun z => by
  cases c with
  | lst l => obtain ⟨_, xs, h1, _⟩ := h; rw [h1] at z; cases z
  | dct ks l => obtain ⟨_, xs, h1, _⟩ := h; rw [h1] at z; cases z
  | obj c ns l => obtain ⟨_, dx, fs, h1, _⟩ := h; rw [h1] at z; cases z
  | _ => exact h.elim

/-! ### growth -/
/-- from (Hf, H) to (Hf', H'): what was frozen stays; what stood stays but the objects at ρ; nothing that stood is newly frozen -/
structure Gr (ρ : List Addr) (Hf H Hf' H' : Hp) : Prop where
  fz : Same Hf Hf'
  keep : ∀ a o, H a = some o → a ∉ ρ → H' a = some o
  new : ∀ a o, H a = some o → Hf a = none → Hf' a = none
  there : ∀ a o, H a = some o → ∃ o', H' a = some o'
theorem Gr.refl {ρ : List Addr} {Hf H : Hp} : Gr ρ Hf H Hf H := ⟨Same.refl _, fun _ _ e _ => e, fun _ _ _ e => e, fun _ o e => ⟨o, e⟩⟩
/-- a new frozen object -/
theorem Gr.alloc {ρ : List Addr} {Hf H : Hp} {p : Addr} {o : HO} (n : H p = none) (s : Same Hf H) : Gr ρ Hf H (upd Hf p o) (upd H p o) where
  fz := fun b u e => by rw [upd_ne (ne_of_none (s b u e) n)]; exact e
  keep := fun b u e _ => by rw [upd_ne (ne_of_none e n)]; exact e
  new := fun b u e f => by rw [upd_ne (ne_of_none e n)]; exact f
  there := fun b u e => ⟨u, by rw [upd_ne (ne_of_none e n)]; exact e⟩
/-- a new object, not frozen -/
theorem Gr.allocO {ρ : List Addr} {Hf H : Hp} {p : Addr} {o : HO} (n : H p = none) : Gr ρ Hf H Hf (upd H p o) where
  fz := Same.refl _
  keep := fun b u e _ => by rw [upd_ne (ne_of_none e n)]; exact e
  new := fun b u e f => f
  there := fun b u e => ⟨u, by rw [upd_ne (ne_of_none e n)]; exact e⟩
/-- an object at ρ written -/
theorem Gr.write {Hf H : Hp} {p : Addr} {o : HO} : Gr [p] Hf H Hf (upd H p o) where
  fz := Same.refl _
  keep := fun b u e n => by rw [upd_ne (by simpa using n)]; exact e
  new := fun b u e f => f
  there := fun b u e => by
    by_cases h : b = p
    · exact ⟨o, by rw [h, upd_same]⟩
    · exact ⟨u, by rw [upd_ne h]; exact e⟩
theorem Same.alloc {Hf H : Hp} {p : Addr} {o : HO} (s : Same Hf H) : Same (upd Hf p o) (upd H p o) := fun b u e => by
  by_cases h : b = p
  · rw [h, upd_same] at e ⊢; exact e
  · rw [upd_ne h] at e ⊢; exact s b u e

/-! ### slots by data -/
inductive Sl where
  | un | fz (d : D) | ow (c : D) | rf (k : Nat) (c : D)
abbrev SD := List Sl
/-- the slot's mutable object, if it has one -/
def Sl.cell : Sl → Option D
  | .ow c => some c
  | .rf _ c => some c
  | _ => none

/-- the surroundings. P: what is set aside (nobody touches it); ρ: the objects that the def may change for its caller; N: what holds of their own dicts -/
structure Bs where
  P : Hp
  ρ : List Addr
  N : Addr → Addr → Prop
/-- the slots σ of a def, told by σd. Hf: what is frozen -/
structure RS (K : PySem.W.Frag) (B : Bs) (σ : St) (σd : SD) (Hf H : Hp) : Prop where
  sub : Same Hf H
  pa : Same B.P H
  dj : ∀ a o, B.P a = some o → Hf a = none
  pr : ∀ a ∈ B.ρ, B.P a = none
  rh : ∀ a ∈ B.ρ, ∃ o, H a = some o
  len : σ.length = σd.length
  sl : ∀ (i : Nat) d, σd[i]? = some (.fz d) → ∃ v, σ[i]? = some (some v) ∧ Rep K Hf d v
  ow : ∀ (i : Nat) c, σd[i]? = some (.ow c) → ∃ a, σ[i]? = some (some (.ref a)) ∧ B.P a = none ∧ a ∉ B.ρ ∧ Cell K (fun x => B.P x = none) Hf H c a
  rf : ∀ (i : Nat) k c, σd[i]? = some (.rf k c) → ∃ a, σ[i]? = some (some (.ref a)) ∧ B.ρ[k]? = some a ∧ Cell K (B.N a) Hf H c a
  inj : ∀ (i j : Nat) s t c c' a, σd[i]? = some s → s.cell = some c → σd[j]? = some t → t.cell = some c' → σ[i]? = some (some (.ref a)) → σ[j]? = some (some (.ref a)) → i = j

section
variable {K : PySem.W.Frag} {B : Bs} {Hf H Hf' H' : Hp} {σ : St} {σd : SD}
/-- a slot with a mutable object -/
theorem RS.cellAt (r : RS K B σ σd Hf H) {i : Nat} {s : Sl} {c : D} (e : σd[i]? = some s) (ec : s.cell = some c) : ∃ a, σ[i]? = some (some (.ref a)) ∧ B.P a = none ∧ Cell K (fun _ => True) Hf H c a := by
  cases s with
  | un => cases ec
  | fz d => cases ec
  | ow d =>
    cases ec
    obtain ⟨a, h1, h2, h3, h4⟩ := r.ow i _ e
    exact ⟨a, h1, h2, h4.any⟩
  | rf k d =>
    cases ec
    obtain ⟨a, h1, h2, h4⟩ := r.rf i _ _ e
    exact ⟨a, h1, r.pr a (List.mem_of_getElem? h2), h4.any⟩
/-- the heap grows, nothing is written -/
theorem RS.grow (r : RS K B σ σd Hf H) (g : Gr [] Hf H Hf' H') (s : Same Hf' H') : RS K B σ σd Hf' H' where
  sub := s
  pa := fun a o e => g.keep a o (r.pa a o e) (by simp)
  dj := fun a o e => g.new a o (r.pa a o e) (r.dj a o e)
  pr := r.pr
  rh := fun a h => by
    obtain ⟨o, e⟩ := r.rh a h
    exact g.there a o e
  len := r.len
  sl := fun i d e => by
    obtain ⟨v, h1, h2⟩ := r.sl i d e
    exact ⟨v, h1, Rep.mono g.fz h2⟩
  ow := fun i c e => by
    obtain ⟨a, h1, h2, h3, h4⟩ := r.ow i c e
    exact ⟨a, h1, h2, h3, h4.keep g.fz fun b o e1 e2 _ => ⟨g.keep b o e1 (by simp), g.new b o e1 e2⟩⟩
  rf := fun i k c e => by
    obtain ⟨a, h1, h3, h4⟩ := r.rf i k c e
    exact ⟨a, h1, h3, h4.keep g.fz fun b o e1 e2 _ => ⟨g.keep b o e1 (by simp), g.new b o e1 e2⟩⟩
  inj := r.inj
/-- a new frozen object -/
theorem RS.alloc (r : RS K B σ σd Hf H) {p : Addr} {o : HO} (n : H p = none) : RS K B σ σd (upd Hf p o) (upd H p o) := r.grow (Gr.alloc n r.sub) (Same.alloc r.sub)
/-- a slot is forgotten -/
theorem RS.set_un (r : RS K B σ σd Hf H) (i : Nat) (o : Option V) : RS K B (σ.set i o) (σd.set i .un) Hf H where
  sub := r.sub
  pa := r.pa
  dj := r.dj
  pr := r.pr
  rh := r.rh
  len := by rw [List.length_set, List.length_set, r.len]
  sl := fun j d e => by
    by_cases h : j = i
    · subst h
      rw [List.getElem?_set] at e
      split at e <;> first | (split at e <;> cases e) | (exact absurd rfl (by assumption))
    · rw [List.getElem?_set_ne (Ne.symm h)] at e ⊢
      exact r.sl j d e
  ow := fun j d e => by
    by_cases h : j = i
    · subst h
      rw [List.getElem?_set] at e
      split at e <;> first | (split at e <;> cases e) | (exact absurd rfl (by assumption))
    · rw [List.getElem?_set_ne (Ne.symm h)] at e ⊢
      exact r.ow j d e
  rf := fun j k d e => by
    by_cases h : j = i
    · subst h
      rw [List.getElem?_set] at e
      split at e <;> first | (split at e <;> cases e) | (exact absurd rfl (by assumption))
    · rw [List.getElem?_set_ne (Ne.symm h)] at e ⊢
      exact r.rf j k d e
  inj := fun j k s t c c' a e1 c1 e2 c2 l1 l2 => by
    by_cases h : j = i
    · subst h
      rw [List.getElem?_set] at e1
      split at e1 <;> first | (split at e1 <;> cases e1 <;> cases c1) | (exact absurd rfl (by assumption))
    · by_cases h' : k = i
      · subst h'
        rw [List.getElem?_set] at e2
        split at e2 <;> first | (split at e2 <;> cases e2 <;> cases c2) | (exact absurd rfl (by assumption))
      · rw [List.getElem?_set_ne (Ne.symm h)] at e1 l1
        rw [List.getElem?_set_ne (Ne.symm h')] at e2 l2
        exact r.inj j k s t c c' a e1 c1 e2 c2 l1 l2
theorem set_self {α : Type} {l : List α} {i : Nat} {x y : α} (h : (l.set i x)[i]? = some y) : x = y := by
  rw [List.getElem?_set] at h
  split at h
  · split at h
    · exact Option.some.inj h
    · cases h
  · exact absurd rfl (by assumption)
theorem set_lt {α : Type} {l : List α} {i : Nat} {x y : α} (h : (l.set i x)[i]? = some y) : i < l.length := by
  have := (List.getElem?_eq_some_iff.mp h).1
  rwa [List.length_set] at this
/-- a slot holds data -/
theorem RS.set_fz (r : RS K B σ σd Hf H) (i : Nat) {d : D} {v : V} (h : Rep K Hf d v) : RS K B (σ.set i (some v)) (σd.set i (.fz d)) Hf H := by
  have q := r.set_un i (some v)
  have ne : ∀ (j : Nat) (s : Sl), (σd.set i (.fz d))[j]? = some s → j ≠ i → (σd.set i .un)[j]? = some s := fun j s e n => by
    rw [List.getElem?_set_ne (Ne.symm n)] at e ⊢; exact e
  refine ⟨q.sub, q.pa, q.dj, q.pr, q.rh, by rw [List.length_set, List.length_set, r.len], fun j e he => ?_, fun j c he => ?_, fun j m c he => ?_, fun j k s t c c' a e1 c1 e2 c2 l1 l2 => ?_⟩
  · by_cases n : j = i
    · subst n
      have z := set_self he
      cases z
      refine ⟨v, ?_, h⟩
      rw [List.getElem?_set_self (by rw [r.len]; exact set_lt he)]
    · exact q.sl j e (ne j _ he n)
  · by_cases n : j = i
    · subst n; have z := set_self he; cases z
    · exact q.ow j c (ne j _ he n)
  · by_cases n : j = i
    · subst n; have z := set_self he; cases z
    · exact q.rf j m c (ne j _ he n)
  · by_cases n : j = i
    · subst n; have z := set_self e1; subst z; cases c1
    · by_cases n' : k = i
      · subst n'; have z := set_self e2; subst z; cases c2
      · exact q.inj j k s t c c' a (ne j _ e1 n) c1 (ne k _ e2 n') c2 l1 l2
/-- a fresh mutable object, told by c, at a: none of the slots' -/
structure Fresh (K : PySem.W.Frag) (B : Bs) (σ : St) (σd : SD) (Hf H : Hp) (c : D) (a : Addr) : Prop where
  new : B.P a = none
  out : a ∉ B.ρ
  cell : Cell K (fun x => B.P x = none) Hf H c a
  ne : ∀ (i : Nat) s c', σd[i]? = some s → s.cell = some c' → σ[i]? ≠ some (some (.ref a))
/-- what is new is not set aside, none of ρ -/
theorem RS.freshP (r : RS K B σ σd Hf H) {a : Addr} (n : H a = none) : B.P a = none := r.pa.free n
theorem RS.out (r : RS K B σ σd Hf H) {a : Addr} (n : H a = none) : a ∉ B.ρ := fun z => by
  obtain ⟨o, e⟩ := r.rh a z
  rw [n] at e
  cases e
theorem Fresh.of_new (r : RS K B σ σd Hf H) {a : Addr} {c : D} (n : H a = none) (hc : Cell K (fun x => B.P x = none) Hf' H' c a) : Fresh K B σ σd Hf' H' c a :=
  ⟨r.freshP n, r.out n, hc, fun i s c' e ec z => by
    obtain ⟨b, e1, _, hb⟩ := r.cellAt e ec
    rw [z] at e1
    cases e1
    obtain ⟨o', q⟩ := hb.there
    rw [n] at q
    cases q⟩
/-- a slot holds a fresh object -/
theorem RS.set_ow (r : RS K B σ σd Hf H) (i : Nat) {c : D} {a : Addr} (h : Fresh K B σ σd Hf H c a) : RS K B (σ.set i (some (.ref a))) (σd.set i (.ow c)) Hf H := by
  have q := r.set_un i (some (.ref a))
  have ne : ∀ (j : Nat) (s : Sl), (σd.set i (.ow c))[j]? = some s → j ≠ i → (σd.set i .un)[j]? = some s := fun j s e n => by
    rw [List.getElem?_set_ne (Ne.symm n)] at e ⊢; exact e
  have ne' : ∀ (j : Nat) (s : Sl), (σd.set i (.ow c))[j]? = some s → j ≠ i → σd[j]? = some s := fun j s e n => by
    rw [List.getElem?_set_ne (Ne.symm n)] at e; exact e
  refine ⟨q.sub, q.pa, q.dj, q.pr, q.rh, by rw [List.length_set, List.length_set, r.len], fun j e he => ?_, fun j d he => ?_, fun j m d he => ?_, fun j k s t d d' b e1 c1 e2 c2 l1 l2 => ?_⟩
  · by_cases n : j = i
    · subst n; have z := set_self he; cases z
    · exact q.sl j e (ne j _ he n)
  · by_cases n : j = i
    · subst n
      have z := set_self he
      cases z
      refine ⟨a, ?_, h.new, h.out, h.cell⟩
      rw [List.getElem?_set_self (by rw [r.len]; exact set_lt he)]
    · exact q.ow j d (ne j _ he n)
  · by_cases n : j = i
    · subst n; have z := set_self he; cases z
    · exact q.rf j m d (ne j _ he n)
  · by_cases n : j = i
    · subst n
      by_cases n' : k = j
      · exact n'.symm
      · have z := set_self l1
        cases z
        rw [List.getElem?_set_ne (Ne.symm n')] at l2
        exact absurd l2 (h.ne k t d' (ne' k t e2 n') c2)
    · by_cases n' : k = i
      · subst n'
        have z := set_self l2
        cases z
        rw [List.getElem?_set_ne (Ne.symm n)] at l1
        exact absurd l1 (h.ne j s d (ne' j s e1 n) c1)
      · exact q.inj j k s t d d' b (ne j _ e1 n) c1 (ne k _ e2 n') c2 l1 l2
/-- .. and forgets another -/
theorem Fresh.freeze (r : RS K B σ σd Hf H) {c : D} {a : Addr} (h : Fresh K B σ σd Hf H c a) : ∃ Hf', Same Hf Hf' ∧ RS K B σ σd Hf' H ∧ Rep K Hf' c (.ref a) := by
  have fin : ∀ Hf' : Hp, Same Hf Hf' → Same Hf' H → (∀ b, Hf b = none → Hf' b ≠ none → (b = a ∨ H b = some (.own a)) ∧ B.P b = none) → RS K B σ σd Hf' H := fun Hf' s1 s2 k1 => by
    have nw : ∀ b o, H b = some o → Hf b = none → b ≠ a → (∀ x, o = .own x → x ≠ a) → Hf' b = none := fun b o e e2 n m => by
      cases q : Hf' b with
      | none => rfl
      | some u =>
        rcases (k1 b e2 (by rw [q]; exact fun z => by cases z)).1 with z | z
        · exact absurd z n
        · rw [e] at z
          cases z
          exact absurd rfl (m a rfl)
    have cl : ∀ (N : Addr → Prop) (i : Nat) s c' b, σd[i]? = some s → s.cell = some c' → σ[i]? = some (some (.ref b)) → Cell K N Hf H c' b → Cell K N Hf' H c' b := fun N i s c' b e ec ev hb =>
      hb.keep s1 fun x o e1 e2 e3 => ⟨e1, nw x o e1 e2 (fun z => by
        subst z
        rcases e3 with e3 | e3
        · subst e3; exact h.ne i s c' e ec ev
        · subst e3
          exact h.cell.notOwn e1) fun y ey => by
          subst ey
          rintro rfl
          rcases e3 with e3 | e3
          · subst e3; exact hb.notOwn e1
          · cases e3
            exact h.ne i s c' e ec ev⟩
    refine ⟨s2, r.pa, fun b o e => ?_, r.pr, r.rh, r.len, fun i d e => ?_, fun i d e => ?_, fun i k d e => ?_, r.inj⟩
    · have hb := r.dj b o e
      cases q : Hf' b with
      | none => rfl
      | some u =>
        have z := (k1 b hb (by rw [q]; exact fun z => by cases z)).2
        rw [z] at e; cases e
    · obtain ⟨v, h1, h2⟩ := r.sl i d e
      exact ⟨v, h1, Rep.mono s1 h2⟩
    · obtain ⟨b, h1, h2, h3, h4⟩ := r.ow i d e
      exact ⟨b, h1, h2, h3, cl _ i _ d b e rfl h1 h4⟩
    · obtain ⟨b, h1, h3, h4⟩ := r.rf i k d e
      exact ⟨b, h1, h3, cl _ i _ d b e rfl h1 h4⟩
  have up : ∀ (o : HO), H a = some o → Same Hf (upd Hf a o) ∧ Same (upd Hf a o) H := fun o e => by
    refine ⟨fun b u q => ?_, fun b u q => ?_⟩
    · rw [upd_ne (ne_of_none q h.cell.free)]; exact q
    · by_cases z : b = a
      · rw [z, upd_same] at q; cases q; rw [z]; exact e
      · rw [upd_ne z] at q; exact r.sub b u q
  have one : ∀ o, ∀ b, Hf b = none → upd Hf a o b ≠ none → (b = a ∨ H b = some (.own a)) ∧ B.P b = none := fun o b e1 e2 => by
    by_cases z : b = a
    · subst z; exact ⟨.inl rfl, h.new⟩
    · rw [upd_ne z] at e2; exact absurd e1 e2
  have hc := h.cell
  cases c with
  | lst l =>
    obtain ⟨h0, xs, h1, h2⟩ := hc
    obtain ⟨u1, u2⟩ := up _ h1
    refine ⟨upd Hf a (.lst xs), u1, fin _ u1 u2 (one _), ?_⟩
    simp only [Rep]
    exact ⟨a, xs, rfl, upd_same, Reps.mono u1 h2⟩
  | dct ks l =>
    obtain ⟨h0, xs, h1, h3, h2⟩ := hc
    obtain ⟨u1, u2⟩ := up _ h1
    refine ⟨upd Hf a (.dK xs), u1, fin _ u1 u2 (one _), ?_⟩
    simp only [Rep]
    exact ⟨a, xs, rfl, upd_same, h3, Reps.mono u1 h2⟩
  | obj c ns l =>
    obtain ⟨h0, dx, fs, h1, h4, h5, h6, h3, h2⟩ := hc
    obtain ⟨u1, u2⟩ := up _ h1
    have nda : dx ≠ a := fun z => by rw [z, h1] at h4; cases h4
    have w1 : Same Hf (upd (upd Hf a (.ins (He.ga K c) dx fs)) dx (.own a)) := fun b u q => by
      rw [upd_ne (ne_of_none q h5)]; exact u1 b u q
    have w2 : Same (upd (upd Hf a (.ins (He.ga K c) dx fs)) dx (.own a)) H := fun b u q => by
      by_cases z : b = dx
      · rw [z, upd_same] at q; cases q; rw [z]; exact h4
      · rw [upd_ne z] at q; exact u2 b u q
    refine ⟨_, w1, fin _ w1 w2 (fun b e1 e2 => ?_), ?_⟩
    · by_cases z : b = dx
      · subst z; exact ⟨.inr h4, h6⟩
      · rw [upd_ne z] at e2; exact one _ b e1 e2
    · simp only [Rep]
      exact ⟨a, dx, fs, rfl, by rw [upd_ne nda.symm, upd_same], upd_same, h3, Reps.mono w1 h2⟩
  | _ => exact hc.elim
/-- a slot's object of our own is frozen -/
theorem RS.freeze (r : RS K B σ σd Hf H) {i : Nat} {c : D} (e : σd[i]? = some (.ow c)) : ∃ Hf', Same Hf Hf' ∧ RS K B σ (σd.set i (.fz c)) Hf' H := by
  obtain ⟨a, h1, h2, h3, h4⟩ := r.ow i c e
  have hlt : i < σ.length := (List.getElem?_eq_some_iff.mp h1).1
  have q := r.set_un i (some (.ref a))
  have f : Fresh K B (σ.set i (some (.ref a))) (σd.set i .un) Hf H c a := ⟨h2, h3, h4, fun j s c' e1 e2 z => by
    by_cases n : j = i
    · subst n; have z := set_self e1; subst z; cases e2
    · rw [List.getElem?_set_ne (Ne.symm n)] at e1 z
      exact n (r.inj j i s _ c' c a e1 e2 e rfl z h1)⟩
  obtain ⟨Hf', g1, g2, g3⟩ := f.freeze q
  refine ⟨Hf', g1, ?_⟩
  have z := g2.set_fz i g3
  rw [List.set_set, List.set_set] at z
  have e2 : σ.set i (some (.ref a)) = σ := by
    apply List.ext_getElem?
    intro j
    rw [List.getElem?_set]
    split
    · rename_i hj; subst hj; first | rw [if_pos hlt, h1] | rw [h1]
    · rfl
  rwa [e2] at z
end
end DL
/-! DL2: what a piece of code does as a function on slots of data; expressions, statements. -/
namespace DL
open PySem L2

structure Exc where
  c : Str
  ns : List Str
  vs : List D
/-- an outcome: a value, an exception, stuck -/
inductive R (σ α : Type) where
  | ok (s : σ) (a : α)
  | exc (s : σ) (e : Exc)
  | stk
/-- an expression's meaning -/
abbrev F (α : Type) := SD → R SD α
def dB {α β : Type} (f : F α) (g : α → F β) : F β := fun s => match f s with
  | .ok s' a => g a s'
  | .exc s' e => .exc s' e
  | .stk => .stk
def dP {α : Type} (a : α) : F α := fun s => .ok s a
def dO {α : Type} (o : Option α) : F α := fun s => match o with
  | some a => .ok s a
  | none => .stk

/-- an exception's own dict at dx tells its attributes -/
def ExcAt (K : PySem.W.Frag) (Hf H : Hp) (e : Exc) (dx : Addr) : Prop := ∃ fs, Hf dx = some (.xd fs) ∧ fs.map (·.1) = e.ns ∧ Reps K Hf e.vs (fs.map (·.2))

section
variable (K : PySem.W.Frag) (B : Bs) (σ : St) (W : WX)
/-- what is to be shown behind an outcome -/
def PO {α β : Type} (rep : Hp → α → β → Prop) (Hf : Hp) (r : R SD α) (Q : β → Hp → Prop) : Prop := match r with
  | .ok s a => ∀ v H' Hf', Same Hf Hf' → RS K B σ s Hf' H' → rep Hf' a v → Q v H'
  | .exc s e => ∀ dx H' Hf', Same Hf Hf' → RS K B σ s Hf' H' → ExcAt K Hf' H' e dx → W (.ref (He.ga K e.c)) (some dx) σ H'
  | .stk => False
end
def tG (K : PySem.W.Frag) (W : WX) {α β : Type} (rep : Hp → α → β → Prop) (f : F α) : St → Hp → (β → Hp → Prop) → Prop := fun σ H Q =>
  ∃ B σd Hf, RS K B σ σd Hf H ∧ PO K B σ W rep Hf (f σd) Q
abbrev rD (K : PySem.W.Frag) : Hp → D → V → Prop := fun Hf d v => Rep K Hf d v
abbrev rDs (K : PySem.W.Frag) : Hp → List D → List V → Prop := fun Hf d v => Reps K Hf d v
abbrev rB : Hp → Bool → Bool → Prop := fun _ b c => c = b
abbrev tM (K : PySem.W.Frag) (W : WX) (f : F D) : TE := tG K W (rD K) f
abbrev tMA (K : PySem.W.Frag) (W : WX) (f : F (List D)) : TA := tG K W (rDs K) f
abbrev tMT (K : PySem.W.Frag) (W : WX) (f : F Bool) : TT := tG K W rB f

section
variable {K : PySem.W.Frag} {B : Bs} {Hf Hf1 H : Hp} {σ : St} {σd : SD} {W : WX}
theorem PO.mono {α β : Type} {rep : Hp → α → β → Prop} {r : R SD α} {Q : β → Hp → Prop} (h : PO K B σ W rep Hf r Q) (e : Same Hf Hf1) : PO K B σ W rep Hf1 r Q := by
  cases r with
  | ok s a => exact fun v H' Hf' s1 => h v H' Hf' (e.trans s1)
  | exc s x => exact fun dx H' Hf' s1 => h dx H' Hf' (e.trans s1)
  | stk => exact h
theorem PO.imp {α β : Type} {rep : Hp → α → β → Prop} {r : R SD α} {Q Q' : β → Hp → Prop} (h : PO K B σ W rep Hf r Q) (k : ∀ v H, Q v H → Q' v H) : PO K B σ W rep Hf r Q' := by
  cases r with
  | ok s a => exact fun v H' Hf' s1 s2 s3 => k _ _ (h v H' Hf' s1 s2 s3)
  | exc s x => exact h
  | stk => exact h
/-- one piece, then another -/
theorem PO.seq {α β γ δ : Type} {rep : Hp → α → β → Prop} {rep' : Hp → γ → δ → Prop} {r : R SD α} {g : α → F γ} {Q : δ → Hp → Prop}
    (h : PO K B σ W rep' Hf (match r with | .ok s' a => g a s' | .exc s' e => .exc s' e | .stk => .stk) Q) :
    PO K B σ W rep Hf r (fun x H1 => ∃ Hf1 s1 a, Same Hf Hf1 ∧ RS K B σ s1 Hf1 H1 ∧ rep Hf1 a x ∧ PO K B σ W rep' Hf1 (g a s1) Q) := by
  cases r with
  | ok s a => exact fun v H' Hf' e r' q => ⟨Hf', s, a, e, r', q, PO.mono h e⟩
  | exc s x => exact h
  | stk => exact h
theorem tG_seq {α β γ δ : Type} {rep : Hp → α → β → Prop} {rep' : Hp → γ → δ → Prop} {f : F α} {g : α → F γ} {Q : δ → Hp → Prop} (r : RS K B σ σd Hf H)
    (h : PO K B σ W rep' Hf (dB f g σd) Q) :
    tG K W rep f σ H (fun x H1 => ∃ Hf1 s1 a, Same Hf Hf1 ∧ RS K B σ s1 Hf1 H1 ∧ rep Hf1 a x ∧ PO K B σ W rep' Hf1 (g a s1) Q) :=
  ⟨B, σd, Hf, r, PO.seq h⟩
theorem tG.imp {α β : Type} {rep : Hp → α → β → Prop} {f : F α} {Q Q' : β → Hp → Prop} (h : tG K W rep f σ H Q) (k : ∀ v H, Q v H → Q' v H) : tG K W rep f σ H Q' := by
  obtain ⟨a, d, e, r, p⟩ := h
  exact ⟨a, d, e, r, p.imp k⟩
/-- an end: the value is at hand -/
theorem PO.done {α β : Type} {rep : Hp → α → β → Prop} {a : α} {v : β} {Q : β → Hp → Prop} (h : PO K B σ W rep Hf (.ok σd a) Q) (r : RS K B σ σd Hf H) (q : rep Hf a v) : Q v H :=
  h v H Hf (Same.refl _) r q
end

section
variable {X : Cx} {W : WX}
theorem _root_.L2.PE.imp {e : Expr} {t t' : TE} (h : PE X e t) (k : ∀ σ H Q, t' σ H Q → t σ H Q) : PE X e t' := ⟨fun pins s σ H Q I q => h.run pins s σ H Q I (k σ H Q q)⟩
theorem _root_.L2.PT.imp {e : Expr} {t t' : TT} (h : PT X e t) (k : ∀ σ H Q, t' σ H Q → t σ H Q) : PT X e t' := ⟨fun pins s σ H Q I q => h.run pins s σ H Q I (k σ H Q q)⟩
theorem _root_.L2.PW.imp {e : Expr} {t t' : TT} (h : PW X e t) (k : ∀ σ H Q, t' σ H Q → t σ H Q) : PW X e t' := ⟨fun wh pins s σ H Q I q => h.run wh pins s σ H Q I (k σ H Q q)⟩
theorem _root_.L2.PA.imp {e : List Expr} {t t' : TA} (h : PA X e t) (k : ∀ σ H Q, t' σ H Q → t σ H Q) : PA X e t' := ⟨fun pos pins s σ H Q I q => h.run pos pins s σ H Q I (k σ H Q q)⟩
theorem _root_.L2.PS.imp {e : Stmt} {t t' : TS} (h : PS X e t) (k : ∀ D σ H, t' D σ H → t D σ H) : PS X e t' := ⟨fun pins s σ H D I q => h.run pins s σ H D I (k D σ H q)⟩
theorem _root_.L2.PSs.imp {e : List Stmt} {t t' : TS} (h : PSs X e t) (k : ∀ D σ H, t' D σ H → t D σ H) : PSs X e t' := ⟨fun pins s σ H D I q => h.run pins s σ H D I (k D σ H q)⟩

/-- the judgements: an expression, a test, arguments -/
abbrev DE (X : Cx) (W : WX) (e : Expr) (f : F D) : Prop := PE X e (tM X.K W f)
abbrev DT (X : Cx) (W : WX) (e : Expr) (f : F Bool) : Prop := PT X e (tMT X.K W f)
abbrev DW (X : Cx) (W : WX) (e : Expr) (f : F Bool) : Prop := PW X e (tMT X.K W f)
abbrev DA (X : Cx) (W : WX) (es : List Expr) (f : F (List D)) : Prop := PA X es (tMA X.K W f)

/-! ### names, constants -/
def dVar (i : Nat) : F D := fun s => match s[i]? with
  | some (.fz d) => .ok s d
  | _ => .stk
theorem de_var {i : Nat} {x : Str} {pos : Pos} (h : PE X (.Name x pos) (tVar i)) : DE X W (.Name x pos) (dVar i) := h.imp fun σ H Q ⟨B, σd, Hf, r, p⟩ => by
  unfold dVar at p
  split at p
  · rename_i d e
    obtain ⟨v, h1, h2⟩ := r.sl i d e
    exact ⟨v, h1, p.done r h2⟩
  · exact p.elim
theorem de_of {e : Expr} {v : V} {d : D} (h : PE X e (tC v)) (hd : ∀ Hf, Rep X.K Hf d v) : DE X W e (dP d) := h.imp fun σ H Q ⟨B, σd, Hf, r, p⟩ => p.done r (hd Hf)
theorem de_int {i j pos} : DE X W (.Constant (.int i) j pos) (dP (.int i)) := de_of pe_int fun _ => by simp only [Rep]
theorem de_bl {b j pos} : DE X W (.Constant (.bool b) j pos) (dP (.bl b)) := de_of pe_bl fun _ => by simp only [Rep]
theorem de_non {j pos} : DE X W (.Constant .none j pos) (dP .non) := de_of pe_non fun _ => by simp only [Rep]
theorem de_str {x j pos} : DE X W (.Constant (.str x) j pos) (dP (.str x)) := de_of pe_str fun _ => by simp only [Rep]

/-! ### two in a row -/
def dBin (h : D → D → Option D) (f g : F D) : F D := dB f fun x => dB g fun y => dO (h x y)
/-- a two-place operation on data -/
def OpD (X : Cx) (f : Value → Value → Sem Value) (h : D → D → Option D) : Prop :=
  ∀ (pins : List (Addr × Obj)) (s : Shared) (τ : St) (H : Hp) (x y : V) (v u : Value) (Q : VK) (Hf : Hp) (dx dy d : D), Inv X pins τ H s → RelV x v → RelV y u → Same Hf H → Rep X.K Hf dx x → Rep X.K Hf dy y → h dx dy = some d →
    (∀ z H' Hf', Gr [] Hf H Hf' H' → Same Hf' H' → Rep X.K Hf' d z → Q z H') → wpAny (model X.prog X.w) X.A (f v u) (EP X pins τ Q) X.xe s
theorem OpD.rule {f : Value → Value → Sem Value} {h : D → D → Option D} (o : OpD X f h) :
    OpR X f (fun x y H Q => ∃ Hf dx dy d, Same Hf H ∧ Rep X.K Hf dx x ∧ Rep X.K Hf dy y ∧ h dx dy = some d ∧ ∀ z H' Hf', Gr [] Hf H Hf' H' → Same Hf' H' → Rep X.K Hf' d z → Q z H') :=
  fun pins s σ H x y v u Q I rx ry ⟨Hf, dx, dy, d, sm, hx, hy, e, q⟩ => o pins s σ H x y v u Q Hf dx dy d I rx ry sm hx hy e q
/-- from the data of both to the operation's reading -/
theorem bin_of {h : D → D → Option D} {f g : F D} {σ : St} {H : Hp} {Q : VK} {K : PySem.W.Frag}
    (q : tM K W (dBin h f g) σ H Q) : tM K W f σ H fun x H1 => tM K W g σ H1 fun y H2 => ∃ Hf dx dy d, Same Hf H2 ∧ Rep K Hf dx x ∧ Rep K Hf dy y ∧ h dx dy = some d ∧ ∀ z H' Hf', Gr [] Hf H2 Hf' H' → Same Hf' H' → Rep K Hf' d z → Q z H' := by
  obtain ⟨B, σd, Hf, r, p⟩ := q
  refine (tG_seq r p).imp fun x H1 ⟨Hf1, s1, dx, e1, r1, hx, p1⟩ => ?_
  refine (tG_seq r1 p1).imp fun y H2 ⟨Hf2, s2, dy, e2, r2, hy, p2⟩ => ?_
  unfold dO at p2
  split at p2
  · rename_i d e
    exact ⟨Hf2, dx, dy, d, r2.sub, Rep.mono e2 hx, hy, e, fun z H' Hf' g sm hz => p2 z H' Hf' g.fz (r2.grow g sm) hz⟩
  · exact p2.elim
theorem de_bin {op : Operator} {h : D → D → Option D} {a b : Expr} {f g : F D} {pos : Pos} (o : OpD X (binaryOp op) h) (ha : DE X W a f) (hb : DE X W b g) : DE X W (.BinOp a op b pos) (dBin h f g) :=
  (pe_op o.rule ha hb).imp fun σ H Q q => bin_of q
theorem de_cmp {op : CmpOp} {h : D → D → Option D} {a b : Expr} {f g : F D} {pos : Pos} (o : OpD X (compareOp op) h) (ha : DE X W a f) (hb : DE X W b g) (hm : behindInMarks op b = false := by first | exact nobehind _ (by decide) (by decide) | rfl) : DE X W (.Compare a [op] [b] pos) (dBin h f g) :=
  (pe_cmpR o.rule ha hb hm).imp fun σ H Q q => bin_of q

/-! ### truth values -/
def D.isBl : D → Option Bool
  | .bl b => some b
  | _ => none
/-- a value's truth -/
def D.truth : D → Option Bool
  | .non => some false
  | .bl b => some b
  | .int i => some (i != 0)
  | .tup l => some (!l.isEmpty)
  | .lst l => some (!l.isEmpty)
  | _ => none
def dTest (f : F D) : F Bool := dB f fun d => dO d.isBl
def dNot (f : F Bool) : F Bool := dB f fun b => dP (!b)
def dAnd (f g : F Bool) : F Bool := dB f fun b => if b = true then g else dP false
def dOr (f g : F Bool) : F Bool := dB f fun b => if b = true then dP true else g
def dNotV (f : F D) : F D := dB f fun d => dO (d.isBl.map fun b => .bl (!b))
def dAndV (f g : F D) : F D := dB f fun d => match d with
  | .bl true => g
  | .bl false => dP (.bl false)
  | _ => fun _ => .stk
def dOrV (f g : F D) : F D := dB f fun d => match d with
  | .bl true => dP (.bl true)
  | .bl false => g
  | _ => fun _ => .stk
def dIf {α : Type} (c : F Bool) (f g : F α) : F α := dB c fun b => if b = true then f else g

theorem rep_bl {K : PySem.W.Frag} {Hf : Hp} {d : D} {b : Bool} (h : d.isBl = some b) {v : V} (r : Rep K Hf d v) : v = .bl b := by
  cases d <;> cases h
  simpa only [Rep] using r
theorem test_of {K : PySem.W.Frag} {f : F D} {σ : St} {H : Hp} {Q : Bool → Hp → Prop} (q : tMT K W (dTest f) σ H Q) : tM K W f σ H fun x H1 => ∃ k, x = .bl k ∧ Q k H1 := by
  obtain ⟨B, σd, Hf, r, p⟩ := q
  refine (tG_seq r p).imp fun x H1 ⟨Hf1, s1, d, e1, r1, hx, p1⟩ => ?_
  unfold dO at p1
  split at p1
  · rename_i b e
    exact ⟨b, rep_bl e hx, p1.done r1 rfl⟩
  · exact p1.elim
theorem dt_cmp {op : CmpOp} {h : D → D → Option D} {a b : Expr} {f g : F D} {pos : Pos} (o : OpD X (compareOp op) h) (ha : DE X W a f) (hb : DE X W b g) (hm : behindInMarks op b = false := by first | exact nobehind _ (by decide) (by decide) | rfl) : DT X W (.Compare a [op] [b] pos) (dTest (dBin h f g)) :=
  (pt_cmpR o.rule ha hb hm).imp fun σ H Q q => bin_of (Q := fun x H' => ∃ k, x = .bl k ∧ Q k H') (by
    obtain ⟨B, σd, Hf, r, p⟩ := q
    exact (tG_seq r p).imp fun x H1 ⟨Hf1, s1, d, e1, r1, hx, p1⟩ => by
      unfold dO at p1
      split at p1
      · rename_i b e
        exact ⟨b, rep_bl e hx, p1.done r1 rfl⟩
      · exact p1.elim)
theorem dt_val {e : Expr} {f : F D} (h : DE X W e f) (he : ∀ whole, isTrue e X.env whole = (do let v ← whole; standAt e.pos; holding [v] (truthy v)) := by intro _; rfl) : DT X W e (dTest f) :=
  (pt_val h he).imp fun σ H Q q => test_of q
theorem dt_not {a : Expr} {f : F Bool} {pos : Pos} (h : DT X W a f) : DT X W (.UnaryOp .Not a pos) (dNot f) := (pt_not h).imp fun σ H Q ⟨B, σd, Hf, r, p⟩ =>
  (tG_seq r p).imp fun x H1 ⟨Hf1, s1, d, e1, r1, hx, p1⟩ => p1.done r1 (by rw [hx])
theorem dw_and1 {a : Expr} {f : F Bool} {pos : Pos} (h : DT X W a f) : DW X W (.BoolOp .And [a] pos) f := pw_and1 h
theorem dw_or1 {a : Expr} {f : F Bool} {pos : Pos} (h : DT X W a f) : DW X W (.BoolOp .Or [a] pos) f := pw_or1 h
theorem dw_and {a b : Expr} {rest : List Expr} {f g : F Bool} {pos : Pos} (h : DT X W a f) (h2 : DW X W (.BoolOp .And (b :: rest) pos) g) : DW X W (.BoolOp .And (a :: b :: rest) pos) (dAnd f g) :=
  (pw_and h h2).imp fun σ H Q ⟨B, σd, Hf, r, p⟩ => (tG_seq r p).imp fun x H1 ⟨Hf1, s1, d, e1, r1, hx, p1⟩ => by
    subst hx
    cases x with
    | true => rw [if_pos rfl] at p1 ⊢; exact ⟨B, s1, Hf1, r1, p1⟩
    | false => rw [if_neg Bool.false_ne_true] at p1 ⊢; exact p1.done r1 rfl
theorem dw_or {a b : Expr} {rest : List Expr} {f g : F Bool} {pos : Pos} (h : DT X W a f) (h2 : DW X W (.BoolOp .Or (b :: rest) pos) g) : DW X W (.BoolOp .Or (a :: b :: rest) pos) (dOr f g) :=
  (pw_or h h2).imp fun σ H Q ⟨B, σd, Hf, r, p⟩ => (tG_seq r p).imp fun x H1 ⟨Hf1, s1, d, e1, r1, hx, p1⟩ => by
    subst hx
    cases x with
    | true => rw [if_pos rfl] at p1 ⊢; exact p1.done r1 rfl
    | false => rw [if_neg Bool.false_ne_true] at p1 ⊢; exact ⟨B, s1, Hf1, r1, p1⟩
theorem dt_w {e : Expr} {f : F Bool} (h : DW X W e f) : DT X W e f := PW.pt h
theorem de_notV {a : Expr} {f : F D} {pos : Pos} (h : DE X W a f) : DE X W (.UnaryOp .Not a pos) (dNotV f) := (pe_not h).imp fun σ H Q ⟨B, σd, Hf, r, p⟩ =>
  (tG_seq r p).imp fun x H1 ⟨Hf1, s1, d, e1, r1, hx, p1⟩ => by
    unfold dO at p1
    cases d <;> first | exact p1.elim | skip
    simp only [Rep] at hx
    exact ⟨_, hx, p1.done r1 (by simp only [Rep])⟩
theorem de_one {op : BoolOp} {a : Expr} {f : F D} {pos : Pos} (h : DE X W a f) : DE X W (.BoolOp op [a] pos) f := pe_one h
theorem de_andV {a b : Expr} {rest : List Expr} {f g : F D} {pos : Pos} (h : DE X W a f) (h2 : DE X W (.BoolOp .And (b :: rest) pos) g) : DE X W (.BoolOp .And (a :: b :: rest) pos) (dAndV f g) :=
  (pe_and h h2).imp fun σ H Q ⟨B, σd, Hf, r, p⟩ => (tG_seq r p).imp fun x H1 ⟨Hf1, s1, d, e1, r1, hx, p1⟩ => by
    cases d with
    | bl b =>
      simp only [Rep] at hx
      cases b with
      | true => exact ⟨true, hx, by rw [if_pos rfl]; exact ⟨B, s1, Hf1, r1, p1⟩⟩
      | false => exact ⟨false, hx, by rw [if_neg Bool.false_ne_true]; exact p1.done r1 (by simp only [Rep])⟩
    | _ => exact p1.elim
theorem de_orV {a b : Expr} {rest : List Expr} {f g : F D} {pos : Pos} (h : DE X W a f) (h2 : DE X W (.BoolOp .Or (b :: rest) pos) g) : DE X W (.BoolOp .Or (a :: b :: rest) pos) (dOrV f g) :=
  (pe_or h h2).imp fun σ H Q ⟨B, σd, Hf, r, p⟩ => (tG_seq r p).imp fun x H1 ⟨Hf1, s1, d, e1, r1, hx, p1⟩ => by
    cases d with
    | bl b =>
      simp only [Rep] at hx
      cases b with
      | false => exact ⟨false, hx, by rw [if_neg Bool.false_ne_true]; exact ⟨B, s1, Hf1, r1, p1⟩⟩
      | true => exact ⟨true, hx, by rw [if_pos rfl]; exact p1.done r1 (by simp only [Rep])⟩
    | _ => exact p1.elim
theorem de_if {c a b : Expr} {h : F Bool} {f g : F D} {pos : Pos} (hc : DT X W c h) (ha : DE X W a f) (hb : DE X W b g) : DE X W (.IfExp c a b pos) (dIf h f g) :=
  (pe_ifExp hc ha hb).imp fun σ H Q ⟨B, σd, Hf, r, p⟩ => (tG_seq r p).imp fun x H1 ⟨Hf1, s1, d, e1, r1, hx, p1⟩ => by
    subst hx
    cases x with
    | true => rw [if_pos rfl] at p1 ⊢; exact ⟨B, s1, Hf1, r1, p1⟩
    | false => rw [if_neg Bool.false_ne_true] at p1 ⊢; exact ⟨B, s1, Hf1, r1, p1⟩

/-! ### arguments, displays -/
def dNil : F (List D) := dP []
def dCons (f : F D) (g : F (List D)) : F (List D) := dB f fun x => dB g fun l => dP (x :: l)
theorem da_nil : DA X W [] dNil := pa_nil.imp fun σ H Q ⟨B, σd, Hf, r, p⟩ => p.done r Reps.nil
theorem da_cons {e : Expr} {es : List Expr} {f : F D} {g : F (List D)} (h : DE X W e f) (h2 : DA X W es g) (hs : starEach (e :: es) X.env = (false, eval e X.env) :: starEach es X.env := by rfl) : DA X W (e :: es) (dCons f g) :=
  (pa_cons h h2 hs).imp fun σ H Q ⟨B, σd, Hf, r, p⟩ => (tG_seq r p).imp fun x H1 ⟨Hf1, s1, d, e1, r1, hx, p1⟩ =>
    (tG_seq r1 p1).imp fun y H2 ⟨Hf2, s2, l, e2, r2, hy, p2⟩ => p2.done r2 (Reps.cons (Rep.mono e2 hx) hy)
/-- a list's length is allowed -/
def okLen (n : Nat) : Bool := decide (n ≤ 16777216)
theorem okLen_ok {n : Nat} (h : okLen n = true) : n ≤ sizeLine := by
  rw [sizeLine_eq]; exact of_decide_eq_true h
def dTup (f : F (List D)) : F D := dB f fun l => if okLen l.length = true then dP (.tup l) else fun _ => .stk
def dLst (f : F (List D)) : F D := dB f fun l => if okLen l.length = true then dP (.lst l) else fun _ => .stk
theorem de_tup {es : List Expr} {f : F (List D)} {k : Nat} {pos : Pos} (h : DA X W es f) : DE X W (.Tuple es k pos) (dTup f) :=
  (pe_tup h).imp fun σ H Q ⟨B, σd, Hf, r, p⟩ => (tG_seq r p).imp fun xs H1 ⟨Hf1, s1, l, e1, r1, hx, p1⟩ => by
    split at p1
    · rename_i hl
      refine ⟨by rw [hx.len]; exact okLen_ok hl, fun q n => ?_⟩
      have s : Same Hf1 (upd Hf1 q (.tup xs)) := (Gr.alloc (ρ := []) n r1.sub).fz
      refine p1 _ _ _ s (r1.alloc n) ?_
      simp only [rD, Rep]
      exact ⟨q, xs, rfl, SqT.of upd_same, Reps.mono s hx⟩
    · exact p1.elim

end
/-! ### fresh objects -/
/-- what is to be shown of an expression that makes a new object, which is ours -/
def PFr (K : PySem.W.Frag) (B : Bs) (σ : St) (W : WX) (Hf : Hp) (r : R SD D) (Q : VK) : Prop := match r with
  | .ok s c => ∀ a H' Hf', Same Hf Hf' → RS K B σ s Hf' H' → Fresh K B σ s Hf' H' c a → Q (.ref a) H'
  | .exc s e => ∀ dx H' Hf', Same Hf Hf' → RS K B σ s Hf' H' → ExcAt K Hf' H' e dx → W (.ref (He.ga K e.c)) (some dx) σ H'
  | .stk => False
def tFr (K : PySem.W.Frag) (W : WX) (f : F D) : TE := fun σ H Q => ∃ B σd Hf, RS K B σ σd Hf H ∧ PFr K B σ W Hf (f σd) Q
abbrev DF (X : Cx) (W : WX) (e : Expr) (f : F D) : Prop := PE X e (tFr X.K W f)
section
variable {K : PySem.W.Frag} {B : Bs} {Hf Hf1 H : Hp} {σ : St} {σd : SD} {W : WX} {Q : VK}
theorem PFr.mono {r : R SD D} (h : PFr K B σ W Hf r Q) (e : Same Hf Hf1) : PFr K B σ W Hf1 r Q := by
  cases r with
  | ok s a => exact fun v H' Hf' s1 => h v H' Hf' (e.trans s1)
  | exc s x => exact fun dx H' Hf' s1 => h dx H' Hf' (e.trans s1)
  | stk => exact h
theorem PFr.of_PO {r : R SD D} (p : PO K B σ W (rD K) Hf r Q) : PFr K B σ W Hf r Q := by
  cases r with
  | ok s c =>
    intro a H' Hf' s1 r1 fr
    obtain ⟨Hf2, g1, g2, g3⟩ := fr.freeze r1
    exact p _ _ _ (s1.trans g1) g2 g3
  | exc s e => exact p
  | stk => exact p
theorem PFr.done {c : D} {a : Addr} (h : PFr K B σ W Hf (.ok σd c) Q) (r : RS K B σ σd Hf H) (q : Fresh K B σ σd Hf H c a) : Q (.ref a) H :=
  h a H Hf (Same.refl _) r q
theorem fr_seq {α β : Type} {rep : Hp → α → β → Prop} {f : F α} {g : α → F D} (r : RS K B σ σd Hf H) (h : PFr K B σ W Hf (dB f g σd) Q) :
    tG K W rep f σ H (fun x H1 => ∃ Hf1 s1 a, Same Hf Hf1 ∧ RS K B σ s1 Hf1 H1 ∧ rep Hf1 a x ∧ PFr K B σ W Hf1 (g a s1) Q) := by
  refine ⟨B, σd, Hf, r, ?_⟩
  unfold dB at h
  cases e : f σd with
  | ok s a =>
    rw [e] at h
    exact fun v H' Hf' s1 r1 q => ⟨Hf', s, a, s1, r1, q, PFr.mono h s1⟩
  | exc s x => rw [e] at h; exact h
  | stk => rw [e] at h; exact h
/-- a new list -/
theorem Fresh.lst (r : RS K B σ σd Hf H) {q : Addr} {xs : List V} {l : List D} (n : H q = none) (hx : Reps K Hf l xs) :
    RS K B σ σd Hf (upd H q (.lst xs)) ∧ Fresh K B σ σd Hf (upd H q (.lst xs)) (.lst l) q := by
  have nf : Hf q = none := r.sub.free n
  have r2 : RS K B σ σd Hf (upd H q (.lst xs)) := r.grow (Gr.allocO n) fun b u e => by rw [upd_ne (ne_of_none e nf)]; exact r.sub b u e
  exact ⟨r2, Fresh.of_new r n ⟨nf, xs, upd_same, hx⟩⟩
theorem PFr.lst {l : List D} {q : Addr} {xs : List V} (p : PFr K B σ W Hf (.ok σd (.lst l)) Q) (r : RS K B σ σd Hf H) (n : H q = none) (hx : Reps K Hf l xs) : Q (.ref q) (upd H q (.lst xs)) := by
  obtain ⟨r2, f⟩ := Fresh.lst r n hx
  exact p.done r2 f
end
section
variable {X : Cx} {W : WX}
theorem de_fr {e : Expr} {f : F D} (h : DF X W e f) : DE X W e f := h.imp fun σ H Q ⟨B, σd, Hf, r, p⟩ => ⟨B, σd, Hf, r, PFr.of_PO p⟩
theorem df_lst {es : List Expr} {f : F (List D)} {pos : Pos} (h : DA X W es f) : DF X W (.List es pos) (dLst f) :=
  (pe_lst h).imp fun σ H Q ⟨B, σd, Hf, r, p⟩ => (fr_seq r p).imp fun xs H1 ⟨Hf1, s1, l, e1, r1, hx, p1⟩ => by
    by_cases hl : okLen l.length = true
    · rw [if_pos hl] at p1
      exact ⟨by rw [hx.len]; exact okLen_ok hl, fun q n => p1.lst r1 n hx⟩
    · rw [if_neg hl] at p1; exact p1.elim
theorem de_lst {es : List Expr} {f : F (List D)} {pos : Pos} (h : DA X W es f) : DE X W (.List es pos) (dLst f) := de_fr (df_lst h)
end

/-! ### statements -/
/-- what is handed back: data, or an object that is the caller's from there on -/
inductive Rt where
  | fz (d : D) | ow (c : D)
inductive Out where
  | nx | bk | ct | rt (r : Rt)
abbrev G := F Out
/-- what is to be shown behind a statement -/
def PSt (K : PySem.W.Frag) (B : Bs) (W : WX) (Hf : Hp) (r : R SD Out) (Z : Ends) : Prop := match r with
  | .ok s .nx => ∀ σ' H' Hf', Same Hf Hf' → RS K B σ' s Hf' H' → Z.nx σ' H'
  | .ok s .bk => ∀ σ' H' Hf', Same Hf Hf' → RS K B σ' s Hf' H' → Z.bk σ' H'
  | .ok s .ct => ∀ σ' H' Hf', Same Hf Hf' → RS K B σ' s Hf' H' → Z.ct σ' H'
  | .ok s (.rt (.fz d)) => ∀ v σ' H' Hf', Same Hf Hf' → RS K B σ' s Hf' H' → Rep K Hf' d v → Z.rt v H'
  | .ok s (.rt (.ow c)) => ∀ a σ' H' Hf', Same Hf Hf' → RS K B σ' s Hf' H' → Cell K (fun x => B.P x = none) Hf' H' c a → B.P a = none → a ∉ B.ρ → Z.rt (.ref a) H'
  | .exc s e => ∀ dx σ' H' Hf', Same Hf Hf' → RS K B σ' s Hf' H' → ExcAt K Hf' H' e dx → W (.ref (He.ga K e.c)) (some dx) σ' H'
  | .stk => False
def tS (K : PySem.W.Frag) (W : WX) (g : G) : TS := fun Z σ H => ∃ B σd Hf, RS K B σ σd Hf H ∧ PSt K B W Hf (g σd) Z
abbrev DS (X : Cx) (W : WX) (st : Stmt) (g : G) : Prop := PS X st (tS X.K W g)
abbrev DSs (X : Cx) (W : WX) (sts : List Stmt) (g : G) : Prop := PSs X sts (tS X.K W g)
section
variable {K : PySem.W.Frag} {B : Bs} {Hf Hf1 H : Hp} {σ : St} {σd : SD} {W : WX} {Z : Ends}
theorem PSt.mono {r : R SD Out} (h : PSt K B W Hf r Z) (e : Same Hf Hf1) : PSt K B W Hf1 r Z := by
  cases r with
  | ok s o =>
    cases o with
    | nx => exact fun σ' H' Hf' s1 => h σ' H' Hf' (e.trans s1)
    | bk => exact fun σ' H' Hf' s1 => h σ' H' Hf' (e.trans s1)
    | ct => exact fun σ' H' Hf' s1 => h σ' H' Hf' (e.trans s1)
    | rt q => cases q <;> exact fun v σ' H' Hf' s1 => h v σ' H' Hf' (e.trans s1)
  | exc s x => exact fun dx σ' H' Hf' s1 => h dx σ' H' Hf' (e.trans s1)
  | stk => exact h
theorem st_seq {α β : Type} {rep : Hp → α → β → Prop} {f : F α} {g : α → G} (r : RS K B σ σd Hf H) (h : PSt K B W Hf (dB f g σd) Z) :
    tG K W rep f σ H (fun x H1 => ∃ Hf1 s1 a, Same Hf Hf1 ∧ RS K B σ s1 Hf1 H1 ∧ rep Hf1 a x ∧ PSt K B W Hf1 (g a s1) Z) := by
  refine ⟨B, σd, Hf, r, ?_⟩
  unfold dB at h
  cases e : f σd with
  | ok s a =>
    rw [e] at h
    exact fun v H' Hf' s1 r1 q => ⟨Hf', s, a, s1, r1, q, PSt.mono h s1⟩
  | exc s x => rw [e] at h; exact fun dx H' Hf' s1 r1 q => h dx σ H' Hf' s1 r1 q
  | stk => rw [e] at h; exact h
theorem stf_seq {f : F D} {g : D → G} (r : RS K B σ σd Hf H) (h : PSt K B W Hf (dB f g σd) Z) :
    tFr K W f σ H (fun x H1 => ∃ Hf1 s1 c a, Same Hf Hf1 ∧ RS K B σ s1 Hf1 H1 ∧ x = .ref a ∧ Fresh K B σ s1 Hf1 H1 c a ∧ PSt K B W Hf1 (g c s1) Z) := by
  refine ⟨B, σd, Hf, r, ?_⟩
  unfold dB at h
  cases e : f σd with
  | ok s a =>
    rw [e] at h
    exact fun v H' Hf' s1 r1 q => ⟨Hf', s, a, v, s1, r1, rfl, q, PSt.mono h s1⟩
  | exc s x => rw [e] at h; exact fun dx H' Hf' s1 r1 q => h dx σ H' Hf' s1 r1 q
  | stk => rw [e] at h; exact h
theorem PSt.nx (h : PSt K B W Hf (.ok σd .nx) Z) (r : RS K B σ σd Hf H) : Z.nx σ H := h σ H Hf (Same.refl _) r
end
def gSeq (g g' : G) : G := dB g fun o => match o with
  | .nx => g'
  | o => dP o
def gNx : G := dP .nx
def gSet (i : Nat) (f : F D) : G := dB f fun d s => .ok (s.set i (.fz d)) .nx
def gSetF (i : Nat) (f : F D) : G := dB f fun c s => .ok (s.set i (.ow c)) .nx
def gExpr (f : F D) : G := dB f fun _ => dP .nx
def gRet (f : F D) : G := dB f fun d => dP (.rt (.fz d))
def gRetF (f : F D) : G := dB f fun c => dP (.rt (.ow c))
/-- return x, x a slot with an object of our own -/
def gRetO (i : Nat) : G := fun s => match s[i]? with
  | some (.ow c) => .ok (s.set i .un) (.rt (.ow c))
  | _ => .stk
/-- from here on the slot's object is data -/
def gFrz (i : Nat) : G := fun s => match s[i]? with
  | some (.ow c) => .ok (s.set i (.fz c)) .nx
  | _ => .stk
section
variable {X : Cx} {W : WX}
theorem dss_nil : DSs X W [] gNx := pss_nil.imp fun Z σ H ⟨B, σd, Hf, r, p⟩ => p.nx r
theorem seq_of {K : PySem.W.Frag} {g g' : G} {Z : Ends} {σ : St} {H : Hp} (q : tS K W (gSeq g g') Z σ H) : tS K W g { Z with nx := tS K W g' Z } σ H := by
  obtain ⟨B, σd, Hf, r, p⟩ := q
  refine ⟨B, σd, Hf, r, ?_⟩
  unfold gSeq dB at p
  cases e : g σd with
  | ok s o =>
    rw [e] at p
    cases o with
    | nx => exact fun σ' H' Hf' s1 r1 => ⟨B, s, Hf', r1, PSt.mono p s1⟩
    | bk => exact p
    | ct => exact p
    | rt q => cases q <;> exact p
  | exc s x => rw [e] at p; exact p
  | stk => rw [e] at p; exact p
theorem dss_cons {st : Stmt} {rest : List Stmt} {g g' : G} (h : DS X W st g) (h2 : DSs X W rest g') : DSs X W (st :: rest) (gSeq g g') :=
  (pss_cons h h2).imp fun Z σ H q => seq_of q
theorem dss_one {st : Stmt} {g : G} (h : DS X W st g) : DSs X W [st] g := pss_one h
/-- a slot's object is frozen ahead of a block -/
theorem dss_frz {sts : List Stmt} {g : G} (i : Nat) (h : DSs X W sts g) : DSs X W sts (gSeq (gFrz i) g) := h.imp fun Z σ H q => by
  obtain ⟨B, σd, Hf, r, p⟩ := seq_of q
  unfold gFrz at p
  split at p
  · rename_i c e
    obtain ⟨Hf', s1, r1⟩ := r.freeze e
    exact p σ H Hf' s1 r1
  · exact p.elim
theorem ds_pass {pos : Pos} : DS X W (.Pass pos) gNx := ps_pass.imp fun Z σ H ⟨B, σd, Hf, r, p⟩ => p.nx r
theorem ds_break {pos : Pos} : DS X W (.Break pos) (dP .bk) := ps_break.imp fun Z σ H ⟨B, σd, Hf, r, p⟩ => p σ H Hf (Same.refl _) r
theorem ds_continue {pos : Pos} : DS X W (.Continue pos) (dP .ct) := ps_continue.imp fun Z σ H ⟨B, σd, Hf, r, p⟩ => p σ H Hf (Same.refl _) r
theorem ds_expr {e : Expr} {f : F D} {pos : Pos} (h : DE X W e f) (hs : swapsWith e none pos.line X.env = pure false := by rfl) : DS X W (.Expr e pos) (gExpr f) :=
  (ps_expr h hs).imp fun Z σ H ⟨B, σd, Hf, r, p⟩ => (st_seq r p).imp fun x H1 ⟨Hf1, s1, d, e1, r1, hx, p1⟩ => p1.nx r1
theorem ds_ret {e : Expr} {f : F D} {pos : Pos} (h : DE X W e f) : DS X W (.Return (some e) pos) (gRet f) :=
  (ps_ret h).imp fun Z σ H ⟨B, σd, Hf, r, p⟩ => (st_seq r p).imp fun x H1 ⟨Hf1, s1, d, e1, r1, hx, p1⟩ => p1 x σ H1 Hf1 (Same.refl _) r1 hx
theorem ds_retF {e : Expr} {f : F D} {pos : Pos} (h : DF X W e f) : DS X W (.Return (some e) pos) (gRetF f) :=
  (ps_ret h).imp fun Z σ H ⟨B, σd, Hf, r, p⟩ => by
    obtain ⟨a, d, e, r1, p1⟩ := stf_seq r p
    refine ⟨a, d, e, r1, ?_⟩
    revert p1
    cases f d with
    | ok s c =>
      intro p1 a H' Hf' s1 r1 fr
      obtain ⟨Hf1, s2, c2, a2, e1, r2, ea, fr2, p2⟩ := p1 a H' Hf' s1 r1 fr
      cases ea
      exact p2 _ σ H' Hf1 (Same.refl _) r2 fr2.cell fr2.new fr2.out
    | exc s x => exact fun z => z
    | stk => exact fun z => z
theorem ds_retN {pos : Pos} : DS X W (.Return none pos) (dP (.rt (.fz .non))) := ps_retN.imp fun Z σ H ⟨B, σd, Hf, r, p⟩ => p _ σ H Hf (Same.refl _) r (by simp only [Rep])
theorem ds_retO {e : Expr} {i : Nat} {pos : Pos} (h : PE X e (tVar i)) : DS X W (.Return (some e) pos) (gRetO i) := (ps_ret h).imp fun Z σ H ⟨B, σd, Hf, r, p⟩ => by
  unfold gRetO at p
  split at p
  · rename_i c e
    obtain ⟨a, h1, h2, h3, h4⟩ := r.ow i c e
    have r2 := r.set_un i (some (.ref a))
    exact ⟨_, h1, p a _ H Hf (Same.refl _) r2 h4 h2 h3⟩
  · exact p.elim
/-- name = e -/
theorem ds_set {i : Nat} {x : Str} {e : Expr} {f : F D} {pos pos' : Pos} (hN : X.N.Nodup) (hi : X.N[i]? = some x) (hx : Loc X.env.scope x) (h : DE X W e f) (hs : swapsWith e (some (.Name x pos')) pos.line X.env = pure false := by rfl) (hf : X.fn x = true ∨ X.env.scope.names.lookup x = some .local := by first | exact .inl rfl | exact .inr rfl | assumption) :
    DS X W (.Assign [.Name x pos'] e pos) (gSet i f) :=
  (ps_set hN hi hx h hs hf).imp fun Z σ H ⟨B, σd, Hf, r, p⟩ => (st_seq r p).imp fun v H1 ⟨Hf1, s1, d, e1, r1, hx, p1⟩ => p1.nx (r1.set_fz i hx)
theorem dsf_set {i : Nat} {x : Str} {e : Expr} {f : F D} {pos pos' : Pos} (hN : X.N.Nodup) (hi : X.N[i]? = some x) (hx : Loc X.env.scope x) (h : DF X W e f) (hs : swapsWith e (some (.Name x pos')) pos.line X.env = pure false := by rfl) (hf : X.fn x = true ∨ X.env.scope.names.lookup x = some .local := by first | exact .inl rfl | exact .inr rfl | assumption) :
    DS X W (.Assign [.Name x pos'] e pos) (gSetF i f) :=
  (ps_set hN hi hx h hs hf).imp fun Z σ H ⟨B, σd, Hf, r, p⟩ => by
    obtain ⟨a, d, e, r1, p1⟩ := stf_seq r p
    refine ⟨a, d, e, r1, ?_⟩
    revert p1
    cases f d with
    | ok s c =>
      intro p1 a H' Hf' s1 r1 fr
      obtain ⟨Hf1, s2, c2, a2, e1, r2, ea, fr2, p2⟩ := p1 a H' Hf' s1 r1 fr
      cases ea
      exact p2.nx (r2.set_ow i fr2)
    | exc s x => exact fun z => z
    | stk => exact fun z => z
theorem ds_if {c : Expr} {a b : List Stmt} {h : F Bool} {f g : G} {pos : Pos} (hc : DT X W c h) (ha : DSs X W a f) (hb : DSs X W b g) : DS X W (.If c a b pos) (dIf h f g) :=
  (ps_if hc ha hb).imp fun Z σ H ⟨B, σd, Hf, r, p⟩ => (st_seq r p).imp fun x H1 ⟨Hf1, s1, d, e1, r1, hx, p1⟩ => by
    subst hx
    cases x with
    | true => rw [if_pos rfl] at p1 ⊢; exact ⟨B, s1, Hf1, r1, p1⟩
    | false => rw [if_neg Bool.false_ne_true] at p1 ⊢; exact ⟨B, s1, Hf1, r1, p1⟩
end
end DL
/-! DL3: what is walked, targets, for, while, comprehensions. -/
namespace DL
open PySem L2

/-! ### what is walked -/
/-- the iterator J gives out the data l, turn by turn -/
def ItD (K : PySem.W.Frag) (Hf : Hp) (J : It) (l : List D) : Prop := ∀ (i : Nat) Hf1 H1, Same Hf Hf1 → Same Hf1 H1 →
  (i < l.length → J.go i H1 ∧ ∀ x H', J.yld i H1 x H' → ∃ Hf', Gr [] Hf1 H1 Hf' H' ∧ Same Hf' H' ∧ ∃ d, l[i]? = some d ∧ Rep K Hf' d x) ∧ (i = l.length → J.stop i H1)
abbrev rIt (K : PySem.W.Frag) : Hp → List D → It → Prop := fun Hf l J => ItD K Hf J l
theorem ItD.mono {K : PySem.W.Frag} {Hf Hf' : Hp} {J : It} {l : List D} (h : ItD K Hf J l) (s : Same Hf Hf') : ItD K Hf' J l := fun i Hf1 H1 s1 s2 => h i Hf1 H1 (s.trans s1) s2
abbrev DI (X : Cx) (W : WX) (tg iter : Expr) (f : F (List D)) : Prop := PI X tg iter (tG X.K W (rIt X.K) f)
theorem _root_.L2.PI.imp {X : Cx} {tg e : Expr} {t t' : TI} (h : PI X tg e t) (k : ∀ σ H Q, t' σ H Q → t σ H Q) : PI X tg e t' := ⟨fun pins s σ H Q I q => h.run pins s σ H Q I (k σ H Q q)⟩

def D.lst? : D → Option (List D)
  | .lst l => some l
  | _ => none
def D.tup? : D → Option (List D)
  | .tup l => some l
  | _ => none
def D.str? : D → Option Str
  | .str s => some s
  | _ => none
def D.int? : D → Option Int
  | .int i => some i
  | _ => none
/-- a text's signs -/
def charsD (s : Str) : List D := s.cps.toList.map fun c => .str ⟨#[c]⟩
def upTo (lo : Int) (n : Nat) : List D := (List.range n).map fun (k : Nat) => .int (lo + (k : Int))
def enumD (l : List D) : List D := l.zipIdx.map fun p => .tup [.int (p.2 : Nat), p.1]
def zipD (l m : List D) : List D := (l.zip m).map fun p => .tup [p.1, p.2]
def dItL (f : F D) : F (List D) := dB f fun d => dO d.lst?
def dItT (f : F D) : F (List D) := dB f fun d => dO d.tup?
def dItS (f : F D) : F (List D) := dB f fun d => dO (d.str?.map charsD)
def okInt (i : Int) : Bool := decide (-(2 ^ 62) ≤ i) && decide (i < 2 ^ 62)
def dRng1 (f : F (List D)) : F (List D) := dB f fun l => match l with
  | [.int j] => if okInt j = true then dP (upTo 0 j.toNat) else fun _ => .stk
  | _ => fun _ => .stk
def dRng2 (f : F (List D)) : F (List D) := dB f fun l => match l with
  | [.int i, .int j] => if (okInt i && okInt j) = true then dP (upTo i (j - i).toNat) else fun _ => .stk
  | _ => fun _ => .stk
def dEnum (f : F (List D)) : F (List D) := dB f fun l => match l with
  | [.lst l] => dP (enumD l)
  | _ => fun _ => .stk
def dZip (f : F (List D)) : F (List D) := dB f fun l => match l with
  | [.lst l, .lst m] => dP (zipD l m)
  | [.tup l, .tup m] => dP (zipD l m)
  | _ => fun _ => .stk

section
variable {X : Cx} {W : WX}
theorem rep_int {K : PySem.W.Frag} {Hf : Hp} {i : Int} {v : V} (h : Rep K Hf (.int i) v) : v = .int i := by simpa only [Rep] using h
theorem rep_str {K : PySem.W.Frag} {Hf : Hp} {i : Str} {v : V} (h : Rep K Hf (.str i) v) : v = .str i := by simpa only [Rep] using h
theorem rep_lst {K : PySem.W.Frag} {Hf : Hp} {l : List D} {v : V} (h : Rep K Hf (.lst l) v) : ∃ a xs, v = .ref a ∧ Hf a = some (.lst xs) ∧ Reps K Hf l xs := by simpa only [Rep] using h
theorem rep_tup {K : PySem.W.Frag} {Hf : Hp} {l : List D} {v : V} (h : Rep K Hf (.tup l) v) : ∃ a xs, v = .ref a ∧ SqT K Hf a xs ∧ Reps K Hf l xs := by simpa only [Rep] using h
theorem rep_mk_int {K : PySem.W.Frag} {Hf : Hp} {i : Int} : Rep K Hf (.int i) (.int i) := by simp only [Rep]
theorem rep_mk_str {K : PySem.W.Frag} {Hf : Hp} {i : Str} : Rep K Hf (.str i) (.str i) := by simp only [Rep]
theorem rep_mk_bl {K : PySem.W.Frag} {Hf : Hp} {i : Bool} : Rep K Hf (.bl i) (.bl i) := by simp only [Rep]
theorem rep_mk_non {K : PySem.W.Frag} {Hf : Hp} : Rep K Hf .non .non := by simp only [Rep]
theorem reps2 {K : PySem.W.Frag} {Hf : Hp} {d e : D} {xs : List V} (h : Reps K Hf [d, e] xs) : ∃ v w, xs = [v, w] ∧ Rep K Hf d v ∧ Rep K Hf e w := by
  simp only [Reps] at h
  obtain ⟨v, r, rfl, h1, w, r', rfl, h2, rfl⟩ := h
  exact ⟨v, w, rfl, h1, h2⟩
theorem reps1 {K : PySem.W.Frag} {Hf : Hp} {d : D} {xs : List V} (h : Reps K Hf [d] xs) : ∃ v, xs = [v] ∧ Rep K Hf d v := by
  simp only [Reps] at h
  obtain ⟨v, r, rfl, h1, rfl⟩ := h
  exact ⟨v, rfl, h1⟩
theorem ItD.list {K : PySem.W.Frag} {Hf : Hp} {a : Addr} {xs : List V} {l : List D} (h : Hf a = some (.lst xs)) (hx : Reps K Hf l xs) : ItD K Hf (Itl K a) l := fun i Hf1 H1 s1 s2 => by
  have q : SqL K H1 a xs := SqL.of (s2 _ _ (s1 _ _ h))
  refine ⟨fun hi => ?_, fun hi => ⟨xs, q, by rw [hx.len, hi]; exact Nat.le_refl _⟩⟩
  have hi' : i < xs.length := by rw [hx.len]; exact hi
  refine ⟨⟨xs, xs[i], q, by simp [hi']⟩, ?_⟩
  rintro x H' ⟨rfl, hy⟩
  obtain ⟨d, e1, e2⟩ := hx.get' (hy xs q)
  exact ⟨Hf1, Gr.refl, s2, d, e1, Rep.mono s1 e2⟩
theorem ItD.tuple {K : PySem.W.Frag} {Hf : Hp} {a : Addr} {xs : List V} {l : List D} (h : SqT K Hf a xs) (hx : Reps K Hf l xs) : ItD K Hf (Itt K a) l := fun i Hf1 H1 s1 s2 => by
  have q : SqT K H1 a xs := Same.seqT s2 (Same.seqT s1 h)
  refine ⟨fun hi => ?_, fun hi => ⟨xs, q, by rw [hx.len, hi]; exact Nat.le_refl _⟩⟩
  have hi' : i < xs.length := by rw [hx.len]; exact hi
  refine ⟨⟨xs, xs[i], q, by simp [hi']⟩, ?_⟩
  rintro x H' ⟨rfl, hy⟩
  obtain ⟨d, e1, e2⟩ := hx.get' (hy xs q)
  exact ⟨Hf1, Gr.refl, s2, d, e1, Rep.mono s1 e2⟩
theorem ItD.str {K : PySem.W.Frag} {Hf : Hp} {s : Str} : ItD K Hf (Its s) (charsD s) := fun i Hf1 H1 s1 s2 => by
  have hl : (charsD s).length = s.cps.size := by unfold charsD; simp
  refine ⟨fun hi => ⟨by show i < s.cps.size; rw [← hl]; exact hi, ?_⟩, fun hi => by show s.cps.size ≤ i; rw [hi, hl]; exact Nat.le_refl _⟩
  rintro x H' ⟨rfl, c, e, rfl⟩
  refine ⟨Hf1, Gr.refl, s2, .str ⟨#[c]⟩, ?_, rep_mk_str⟩
  unfold charsD
  rw [List.getElem?_map]
  have e2 : s.cps.toList[i]? = some c := by simpa using e
  rw [e2]
  rfl
theorem ItD.range {K : PySem.W.Frag} {Hf : Hp} {lo : Int} {n : Nat} : ItD K Hf (Itr lo n) (upTo lo n) := fun i Hf1 H1 s1 s2 => by
  have hl : (upTo lo n).length = n := by unfold upTo; simp
  refine ⟨fun hi => ⟨by show i < n; rw [← hl]; exact hi, ?_⟩, fun hi => by show n ≤ i; rw [hi, hl]; exact Nat.le_refl _⟩
  rintro x H' ⟨rfl, rfl⟩
  rw [hl] at hi
  refine ⟨Hf1, Gr.refl, s2, .int (lo + i), ?_, rep_mk_int⟩
  unfold upTo
  rw [List.getElem?_map, List.getElem?_range hi]
  rfl
theorem gr_tup {K : PySem.W.Frag} {Hf H : Hp} {T : Addr} {xs : List V} {l : List D} (n : H T = none) (s : Same Hf H) (hx : Reps K Hf l xs) :
    Gr [] Hf H (upd Hf T (.tup xs)) (upd H T (.tup xs)) ∧ Same (upd Hf T (.tup xs)) (upd H T (.tup xs)) ∧ Rep K (upd Hf T (.tup xs)) (.tup l) (.ref T) := by
  have g : Gr [] Hf H (upd Hf T (.tup xs)) (upd H T (.tup xs)) := Gr.alloc n s
  refine ⟨g, Same.alloc s, ?_⟩
  simp only [Rep]
  exact ⟨T, xs, rfl, SqT.of upd_same, Reps.mono g.fz hx⟩
theorem ItD.enum {K : PySem.W.Frag} {Hf : Hp} {a : Addr} {xs : List V} {l : List D} (h : Hf a = some (.lst xs)) (hx : Reps K Hf l xs) : ItD K Hf (Ite K a) (enumD l) := fun i Hf1 H1 s1 s2 => by
  have q : SqL K H1 a xs := SqL.of (s2 _ _ (s1 _ _ h))
  have hl : (enumD l).length = l.length := by unfold enumD; simp
  refine ⟨fun hi => ?_, fun hi => ⟨xs, q, by rw [hx.len, hi, hl]; exact Nat.le_refl _⟩⟩
  have hi' : i < xs.length := by rw [hx.len, ← hl]; exact hi
  refine ⟨⟨xs, xs[i], q, by simp [hi']⟩, ?_⟩
  rintro y H' ⟨T, x, rfl, n, rfl, hy⟩
  obtain ⟨d, e1, e2⟩ := hx.get' (hy xs q)
  obtain ⟨g1, g2, g3⟩ := gr_tup (l := [.int (i : Nat), d]) n s2 (Reps.cons rep_mk_int (Reps.one (Rep.mono s1 e2)))
  refine ⟨_, g1, g2, _, ?_, g3⟩
  unfold enumD
  rw [List.getElem?_map, List.getElem?_zipIdx, e1]
  simp
theorem ItD.zip {K : PySem.W.Frag} {Hf : Hp} {a b : Addr} {xs ys : List V} {l m : List D} (h : Hf a = some (.lst xs)) (hx : Reps K Hf l xs) (h' : Hf b = some (.lst ys)) (hy : Reps K Hf m ys) : ItD K Hf (Itz K a b) (zipD l m) := fun i Hf1 H1 s1 s2 => by
  have q : SqL K H1 a xs := SqL.of (s2 _ _ (s1 _ _ h))
  have q' : SqL K H1 b ys := SqL.of (s2 _ _ (s1 _ _ h'))
  have hl : (zipD l m).length = min l.length m.length := by unfold zipD; simp
  refine ⟨fun hi => ?_, fun hi => ⟨xs, ys, q, q', ?_⟩⟩
  · rw [hl] at hi
    have hi1 : i < xs.length := by rw [hx.len]; omega
    have hi2 : i < ys.length := by rw [hy.len]; omega
    refine ⟨⟨xs, ys, xs[i], ys[i], q, q', by simp [hi1], by simp [hi2]⟩, ?_⟩
    rintro y H' ⟨T, x, z, rfl, n, rfl, e1, e2⟩
    obtain ⟨d, d1, d2⟩ := hx.get' (e1 xs q)
    obtain ⟨e, f1, f2⟩ := hy.get' (e2 ys q')
    obtain ⟨g1, g2, g3⟩ := gr_tup (l := [d, e]) n s2 (Reps.cons (Rep.mono s1 d2) (Reps.one (Rep.mono s1 f2)))
    refine ⟨_, g1, g2, _, ?_, g3⟩
    unfold zipD
    rw [List.getElem?_map]
    have : (l.zip m)[i]? = some (d, e) := by rw [List.getElem?_zip_eq_some]; exact ⟨d1, f1⟩
    rw [this]
    rfl
  · rw [hl] at hi
    rw [hx.len, hy.len]
    omega
theorem ItD.zipT {K : PySem.W.Frag} {Hf : Hp} {a b : Addr} {xs ys : List V} {l m : List D} (h : SqT K Hf a xs) (hx : Reps K Hf l xs) (h' : SqT K Hf b ys) (hy : Reps K Hf m ys) : ItD K Hf (RZ.ItzT K a b) (zipD l m) := fun i Hf1 H1 s1 s2 => by
  have q : SqT K H1 a xs := Same.seqT (s1.trans s2) h
  have q' : SqT K H1 b ys := Same.seqT (s1.trans s2) h'
  have hl : (zipD l m).length = min l.length m.length := by unfold zipD; simp
  refine ⟨fun hi => ?_, fun hi => ⟨xs, ys, q, q', ?_⟩⟩
  · rw [hl] at hi
    have hi1 : i < xs.length := by rw [hx.len]; omega
    have hi2 : i < ys.length := by rw [hy.len]; omega
    refine ⟨⟨xs, ys, xs[i], ys[i], q, q', by simp [hi1], by simp [hi2]⟩, ?_⟩
    rintro y H' ⟨T, x, z, rfl, n, rfl, e1, e2⟩
    obtain ⟨d, d1, d2⟩ := hx.get' (e1 xs q)
    obtain ⟨e, f1, f2⟩ := hy.get' (e2 ys q')
    obtain ⟨g1, g2, g3⟩ := gr_tup (l := [d, e]) n s2 (Reps.cons (Rep.mono s1 d2) (Reps.one (Rep.mono s1 f2)))
    refine ⟨_, g1, g2, _, ?_, g3⟩
    unfold zipD
    rw [List.getElem?_map]
    have : (l.zip m)[i]? = some (d, e) := by rw [List.getElem?_zip_eq_some]; exact ⟨d1, f1⟩
    rw [this]
    rfl
  · rw [hl] at hi
    rw [hx.len, hy.len]
    omega
theorem di_list {tg e : Expr} {f : F D} (h : DE X W e f) : DI X W tg e (dItL f) := (pi_list h).imp fun σ H Q ⟨B, σd, Hf, r, p⟩ => (tG_seq r p).imp fun v H1 ⟨Hf1, s1, d, e1, r1, hx, p1⟩ => by
  unfold dO at p1
  cases d <;> first | exact p1.elim | skip
  obtain ⟨a, xs, rfl, h1, h2⟩ := rep_lst hx
  exact ⟨a, rfl, ⟨xs, SqL.of (r1.sub _ _ h1)⟩, p1.done r1 (ItD.list h1 h2)⟩
theorem di_tup {tg e : Expr} {f : F D} (h : DE X W e f) : DI X W tg e (dItT f) := (pi_tup h).imp fun σ H Q ⟨B, σd, Hf, r, p⟩ => (tG_seq r p).imp fun v H1 ⟨Hf1, s1, d, e1, r1, hx, p1⟩ => by
  unfold dO at p1
  cases d <;> first | exact p1.elim | skip
  obtain ⟨a, xs, rfl, h1, h2⟩ := rep_tup hx
  exact ⟨a, rfl, ⟨xs, Same.seqT r1.sub h1⟩, p1.done r1 (ItD.tuple h1 h2)⟩
theorem di_str {tg e : Expr} {f : F D} (h : DE X W e f) : DI X W tg e (dItS f) := (pi_str h).imp fun σ H Q ⟨B, σd, Hf, r, p⟩ => (tG_seq r p).imp fun v H1 ⟨Hf1, s1, d, e1, r1, hx, p1⟩ => by
  unfold dO at p1
  cases d <;> first | exact p1.elim | skip
  rw [rep_str hx]
  exact ⟨_, rfl, p1.done r1 ItD.str⟩
theorem okInt_ok {i : Int} (h : okInt i = true) : -(2 ^ 62) ≤ i ∧ i < 2 ^ 62 := by
  unfold okInt at h
  rw [Bool.and_eq_true] at h
  exact ⟨of_decide_eq_true h.1, of_decide_eq_true h.2⟩
theorem di_range1 {tg a : Expr} {f : F (List D)} {p pos : Pos} (hg : Gl X "range") (hm : X.mg "range" = none) (ha : DA X W [a] f) (hs : starEach [a] X.env = [(false, eval a X.env)] := by rfl) : DI X W tg (.Call (.Name "range" p) [a] [] pos) (dRng1 f) :=
  (pi_range1 hg hm ha hs).imp fun σ H Q ⟨B, σd, Hf, r, p⟩ => (tG_seq r p).imp fun v H1 ⟨Hf1, s1, l, e1, r1, hx, p1⟩ => by
    split at p1
    · rename_i j
      split at p1
      · rename_i hj
        obtain ⟨w, rfl, hw⟩ := reps1 hx
        rw [rep_int hw]
        exact ⟨j, rfl, (okInt_ok hj).1, (okInt_ok hj).2, p1.done r1 ItD.range⟩
      · exact p1.elim
    · exact p1.elim
theorem di_range2 {tg a b : Expr} {f : F (List D)} {p pos : Pos} (hg : Gl X "range") (hm : X.mg "range" = none) (ha : DA X W [a, b] f) (hs : starEach [a, b] X.env = [(false, eval a X.env), (false, eval b X.env)] := by rfl) (hs2 : starEach [b] X.env = [(false, eval b X.env)] := by rfl) : DI X W tg (.Call (.Name "range" p) [a, b] [] pos) (dRng2 f) :=
  (pi_range2 hg hm ha hs hs2).imp fun σ H Q ⟨B, σd, Hf, r, p⟩ => (tG_seq r p).imp fun v H1 ⟨Hf1, s1, l, e1, r1, hx, p1⟩ => by
    split at p1
    · rename_i i j
      split at p1
      · rename_i hj
        rw [Bool.and_eq_true] at hj
        obtain ⟨w, w', rfl, hw, hw'⟩ := reps2 hx
        rw [rep_int hw, rep_int hw']
        exact ⟨i, j, rfl, ⟨(okInt_ok hj.1).1, (okInt_ok hj.1).2, (okInt_ok hj.2).1, (okInt_ok hj.2).2⟩, p1.done r1 ItD.range⟩
      · exact p1.elim
    · exact p1.elim
theorem di_enum {e : Expr} {f : F (List D)} {p pos tpos : Pos} {elts : List Expr} {kk : Nat} (hg : Gl X "enumerate") (hm : X.mg "enumerate" = none) (ha : DA X W [e] f) (hs : starEach [e] X.env = [(false, eval e X.env)] := by rfl) :
    DI X W (.Tuple elts kk tpos) (.Call (.Name "enumerate" p) [e] [] pos) (dEnum f) := (pi_enum hg hm ha hs).imp fun σ H Q ⟨B, σd, Hf, r, p⟩ => (tG_seq r p).imp fun v H1 ⟨Hf1, s1, l, e1, r1, hx, p1⟩ => by
  split at p1
  · rename_i l
    obtain ⟨w, rfl, hw⟩ := reps1 hx
    obtain ⟨a, xs, rfl, h1, h2⟩ := rep_lst hw
    exact ⟨a, xs, rfl, SqL.of (r1.sub _ _ h1), p1.done r1 (ItD.enum h1 h2)⟩
  · exact p1.elim
theorem di_zip {e e2 : Expr} {f : F (List D)} {p pos tpos : Pos} {elts : List Expr} {kk : Nat} (hg : Gl X "zip") (hm : X.mg "zip" = none) (ha : DA X W [e, e2] f)
    (hs : starEach [e, e2] X.env = (false, eval e X.env) :: starEach [e2] X.env := by rfl) (hpl : (backTo pos (starEach [e2] X.env)).any (·.1) = false := by rfl) :
    DI X W (.Tuple elts kk tpos) (.Call (.Name "zip" p) [e, e2] [] pos) (dZip f) := (RZ.pi_zipA hg hm ha hs hpl).imp fun σ H Q ⟨B, σd, Hf, r, p⟩ => (tG_seq r p).imp fun v H1 ⟨Hf1, s1, l, e1, r1, hx, p1⟩ => by
  split at p1
  · rename_i l m
    obtain ⟨w, w', rfl, hw, hw'⟩ := reps2 hx
    obtain ⟨a, xs, rfl, h1, h2⟩ := rep_lst hw
    obtain ⟨b, ys, rfl, h3, h4⟩ := rep_lst hw'
    exact ⟨a, b, xs, ys, rfl, .inl ⟨SqL.of (r1.sub _ _ h1), SqL.of (r1.sub _ _ h3), p1.done r1 (ItD.zip h1 h2 h3 h4)⟩⟩
  · rename_i l m
    obtain ⟨w, w', rfl, hw, hw'⟩ := reps2 hx
    obtain ⟨a, xs, rfl, h1, h2⟩ := rep_tup hw
    obtain ⟨b, ys, rfl, h3, h4⟩ := rep_tup hw'
    exact ⟨a, b, xs, ys, rfl, .inr ⟨Same.seqT r1.sub h1, Same.seqT r1.sub h3, p1.done r1 (ItD.zipT h1 h2 h3 h4)⟩⟩
  · exact p1.elim
end

/-! ### targets -/
/-- the slots at vs are not looked at: the targets of a comprehension -/
def OnlyAt (is : List Nat) (σ σ' : St) : Prop := ∀ vs : List Nat, (∀ i ∈ is, i ∈ vs) → wipe σ' vs = wipe σ vs
def tTg (K : PySem.W.Frag) (u : D → SD → Option SD) (is : List Nat) : TG := fun v σ H Q => ∃ B s Hf d s', RS K B σ s Hf H ∧ Rep K Hf d v ∧ u d s = some s' ∧ ∀ σ', RS K B σ' s' Hf H → OnlyAt is σ σ' → Q σ' H
def tTgs (K : PySem.W.Frag) (u : List D → SD → Option SD) (is : List Nat) : TGs := fun vs σ H Q => ∃ B s Hf l s', RS K B σ s Hf H ∧ Reps K Hf l vs ∧ u l s = some s' ∧ ∀ σ', RS K B σ' s' Hf H → OnlyAt is σ σ' → Q σ' H
abbrev DG (X : Cx) (tg : Expr) (u : D → SD → Option SD) (is : List Nat) : Prop := PG X tg (tTg X.K u is)
abbrev DGs (X : Cx) (tgs : List Expr) (u : List D → SD → Option SD) (is : List Nat) : Prop := PGs X tgs (tTgs X.K u is)
theorem _root_.L2.PG.imp {X : Cx} {tg : Expr} {t t' : TG} (h : PG X tg t) (k : ∀ v σ H Q, t' v σ H Q → t v σ H Q) : PG X tg t' := ⟨fun pins s σ H v u Q I r q => h.run pins s σ H v u Q I r (k v σ H Q q)⟩
theorem _root_.L2.PGs.imp {X : Cx} {tg : List Expr} {t t' : TGs} (h : PGs X tg t) (k : ∀ v σ H Q, t' v σ H Q → t v σ H Q) : PGs X tg t' := ⟨fun pins s σ H v u Q I r q => h.run pins s σ H v u Q I r (k v σ H Q q)⟩
theorem wipe_set {σ : St} {i : Nat} {o : Option V} : ∀ {vs : List Nat}, i ∈ vs → wipe (σ.set i o) vs = wipe σ vs
  | [], h => by cases h
  | v :: vs, h => by
    unfold wipe
    by_cases e : i = v
    · subst e
      have z : ∀ ws : List Nat, (wipe (σ.set i o) ws).set i none = (wipe σ ws).set i none := fun ws => by
        induction ws with
        | nil => show (σ.set i o).set i none = σ.set i none; rw [List.set_set]
        | cons w ws ih =>
          show ((wipe (σ.set i o) ws).set w none).set i none = ((wipe σ ws).set w none).set i none
          by_cases ew : w = i
          · subst ew; rw [List.set_set, List.set_set]; exact ih
          · rw [List.set_comm _ _ ew, List.set_comm _ _ ew, ih]
      exact z vs
    · rcases List.mem_cons.mp h with h | h
      · exact absurd h e
      · rw [wipe_set h]
theorem OnlyAt.set {σ : St} {i : Nat} {o : Option V} : OnlyAt [i] σ (σ.set i o) := fun vs h => wipe_set (h i (by simp))
theorem OnlyAt.refl {σ : St} : OnlyAt [] σ σ := fun _ _ => rfl
theorem OnlyAt.trans {is js : List Nat} {σ σ1 σ2 : St} (h : OnlyAt is σ σ1) (h' : OnlyAt js σ1 σ2) : OnlyAt (is ++ js) σ σ2 := fun vs k =>
  (h' vs fun i hi => k i (List.mem_append_right _ hi)).trans (h vs fun i hi => k i (List.mem_append_left _ hi))
def uName (i : Nat) (d : D) (s : SD) : Option SD := some (s.set i (.fz d))
def uTup (n : Nat) (u : List D → SD → Option SD) (d : D) (s : SD) : Option SD := match d with
  | .tup l => if l.length = n then u l s else none
  | _ => none
def uNil (l : List D) (s : SD) : Option SD := match l with
  | [] => some s
  | _ => none
def uCons (u : D → SD → Option SD) (w : List D → SD → Option SD) (l : List D) (s : SD) : Option SD := match l with
  | d :: l => (u d s).bind (w l)
  | [] => none
section
variable {X : Cx} {W : WX}
theorem dg_name {i : Nat} {x : Str} {pos : Pos} (h : PG X (.Name x pos) (gName i)) : DG X (.Name x pos) (uName i) [i] := h.imp fun v σ H Q ⟨B, s, Hf, d, s', r, hd, e, q⟩ => by
  cases e
  exact q _ (r.set_fz i hd) OnlyAt.set
theorem dgs_nil : DGs X [] uNil [] := pgs_nil.imp fun vs σ H Q ⟨B, s, Hf, l, s', r, hl, e, q⟩ => by
  unfold uNil at e
  split at e
  · cases e
    simp only [Reps] at hl
    exact ⟨hl, q σ r OnlyAt.refl⟩
  · cases e
theorem dgs_cons {e : Expr} {es : List Expr} {u : D → SD → Option SD} {w : List D → SD → Option SD} {is js : List Nat} (h : DG X e u is) (h2 : DGs X es w js)
    (hs : (assignEach (e :: es) X.env).map (·.2) = assign e X.env :: (assignEach es X.env).map (·.2) := by rfl) : DGs X (e :: es) (uCons u w) (is ++ js) := (pgs_cons h h2 hs).imp fun vs σ H Q ⟨B, s, Hf, l, s', r, hl, e, q⟩ => by
  unfold uCons at e
  split at e
  · rename_i d l
    cases e1 : u d s with
    | none => rw [e1] at e; cases e
    | some s1 =>
      rw [e1] at e
      simp only [Reps] at hl
      obtain ⟨v, xs, rfl, h1, h2⟩ := hl
      exact ⟨v, xs, rfl, B, s, Hf, d, s1, r, h1, e1, fun σ1 r1 o1 => ⟨B, s1, Hf, l, s', r1, h2, e, fun σ2 r2 o2 => q σ2 r2 (o1.trans o2)⟩⟩
  · cases e
theorem dg_tup {es : List Expr} {k : Nat} {pos : Pos} {u : List D → SD → Option SD} {is : List Nat} {n : Nat} (hc : X.calm = true) (h : DGs X es u is) (hn : (assignEach es X.env).length = n := by rfl) (hst : (assignEach es X.env).findIdx? (·.1) = none := by rfl) :
    DG X (.Tuple es k pos) (uTup n u) is := (pg_tup hc h hn hst).imp fun v σ H Q ⟨B, s, Hf, d, s', r, hd, e, q⟩ => by
  unfold uTup at e
  split at e
  · rename_i l
    split at e
    · rename_i hl
      obtain ⟨a, xs, rfl, h1, h2⟩ := rep_tup hd
      exact ⟨a, xs, rfl, Same.seqT r.sub h1, by rw [h2.len, hl], B, s, Hf, l, s', r, h2, e, q⟩
    · cases e
  · cases e
/-- target = e -/
def gAsg (f : F D) (u : D → SD → Option SD) : G := dB f fun d s => match u d s with
  | some s' => .ok s' .nx
  | none => .stk
theorem ds_asg {tg e : Expr} {f : F D} {u : D → SD → Option SD} {is : List Nat} {pos : Pos} (he : DE X W e f) (hg : DG X tg u is) (hs : swapsWithSole [tg] e pos.line X.env = pure false := by rfl) (hw : swappedStores [tg] e X.env = pure none := by rfl)
    (h1 : (assignEach [tg] X.env).map (·.2) = [assign tg X.env] := by rfl) : DS X W (.Assign [tg] e pos) (gAsg f u) :=
  (ps_asg he hg hs hw h1).imp fun Z σ H ⟨B, σd, Hf, r, p⟩ => (st_seq r p).imp fun v H1 ⟨Hf1, s1, d, e1, r1, hx, p1⟩ => by
    split at p1
    · rename_i s' e2
      exact ⟨B, s1, Hf1, d, s', r1, hx, e2, fun σ' r' _ => p1.nx r'⟩
    · exact p1.elim

/-! ### for -/
def forL (u : D → SD → Option SD) (body : G) : List D → G
  | [] => gNx
  | d :: l => fun s => match u d s with
    | none => .stk
    | some s1 => match body s1 with
      | .ok s2 .nx => forL u body l s2
      | .ok s2 .ct => forL u body l s2
      | .ok s2 .bk => .ok s2 .nx
      | .ok s2 (.rt q) => .ok s2 (.rt q)
      | .exc s2 e => .exc s2 e
      | .stk => .stk
def gFor (f : F (List D)) (u : D → SD → Option SD) (body : G) : G := dB f fun l => forL u body l
theorem ds_for {tg iter : Expr} {body : List Stmt} {f : F (List D)} {u : D → SD → Option SD} {is : List Nat} {g : G} {pos : Pos} (hp : PassesOwn (model X.prog X.w) X.A X.env X.xe) (hc : X.calm = true) (hi : DI X W tg iter f) (hg : DG X tg u is) (hb : DSs X W body g)
    (hs : ∀ x, foldedSetIterable iter X.env x = pure x := by intro _; rfl) : DS X W (.For tg iter body [] pos) (gFor f u g) :=
  (ps_for hp hc hi hg hb hs).imp fun Z σ H ⟨B, σd, Hf, r, p⟩ => (st_seq r p).imp fun J H1 ⟨Hf1, s1, l, e1, r1, hx, p1⟩ => by
    refine ⟨fun i m σ H => m = l.length - i ∧ i ≤ l.length ∧ ∃ Hf s, Same Hf1 Hf ∧ RS X.K B σ s Hf H ∧ PSt X.K B W Hf (forL u g (l.drop i) s) Z, ⟨l.length, by simp, Nat.zero_le _, Hf1, s1, Same.refl _, r1, p1⟩, ?_⟩
    rintro i m σ H ⟨rfl, hi, Hf, s, sm, r, p⟩
    obtain ⟨go, stop⟩ := hx i Hf H sm r.sub
    by_cases hlt : i < l.length
    · obtain ⟨go1, go2⟩ := go hlt
      refine .inr ⟨go1, fun σ' H' => ∃ Hf' s', Same Hf1 Hf' ∧ RS X.K B σ' s' Hf' H' ∧ PSt X.K B W Hf' (forL u g (l.drop (i + 1)) s') Z, fun σ' H' q => ⟨l.length - (i + 1), by omega, rfl, hlt, q⟩, fun x H' y => ?_⟩
      obtain ⟨Hf', g1, g2, d, ed, hd⟩ := go2 x H' y
      have r' := r.grow g1 g2
      have ec : l.drop i = d :: l.drop (i + 1) := by
        obtain ⟨h1, h2⟩ := List.getElem?_eq_some_iff.mp ed
        rw [← h2]
        exact List.drop_eq_getElem_cons h1
      rw [ec] at p
      unfold forL at p
      cases eu : u d s with
      | none => rw [eu] at p; exact p.elim
      | some s2 =>
        rw [eu] at p
        refine ⟨B, s, Hf', d, s2, r', hd, eu, fun σ2 r2 _ => ⟨B, s2, Hf', r2, ?_⟩⟩
        have sm' : Same Hf1 Hf' := sm.trans g1.fz
        dsimp only at p
        cases eb : g s2 with
        | ok s3 o =>
          rw [eb] at p
          cases o with
          | nx => exact fun σ' H' Hf2 t1 t2 => ⟨Hf2, s3, sm'.trans t1, t2, PSt.mono p (g1.fz.trans t1)⟩
          | ct => exact fun σ' H' Hf2 t1 t2 => ⟨Hf2, s3, sm'.trans t1, t2, PSt.mono p (g1.fz.trans t1)⟩
          | bk => exact fun σ' H' Hf2 t1 t2 => p σ' H' Hf2 (g1.fz.trans t1) t2
          | rt q => cases q <;> exact fun v σ' H' Hf2 t1 t2 => p v σ' H' Hf2 (g1.fz.trans t1) t2
        | exc s3 e => rw [eb] at p; exact fun dx σ' H' Hf2 t1 t2 => p dx σ' H' Hf2 (g1.fz.trans t1) t2
        | stk => rw [eb] at p; exact p
    · have e : i = l.length := by omega
      refine .inl ⟨stop e, ?_⟩
      rw [e, List.drop_length] at p
      exact p.nx r

/-! ### while -/
def whileN (c : F Bool) (body : G) : Nat → G
  | 0 => fun _ => .stk
  | n + 1 => dB c fun b s => if b = true then (match body s with
      | .ok s2 .nx => whileN c body n s2
      | .ok s2 .ct => whileN c body n s2
      | .ok s2 .bk => .ok s2 .nx
      | .ok s2 (.rt q) => .ok s2 (.rt q)
      | .exc s2 e => .exc s2 e
      | .stk => .stk) else .ok s .nx
theorem ds_while {c : Expr} {body : List Stmt} {f : F Bool} {g : G} {pos : Pos} (n : Nat) (hp : PassesOwn (model X.prog X.w) X.A X.env X.xe) (hc : DT X W c f) (hb : DSs X W body g) : DS X W (.While c body [] pos) (whileN f g n) :=
  (ps_while hp hc hb).imp fun Z σ H ⟨B, σd, Hf, r, p⟩ => by
    refine ⟨fun m σ H => ∃ Hf1 s, Same Hf Hf1 ∧ RS X.K B σ s Hf1 H ∧ PSt X.K B W Hf1 (whileN f g m s) Z, ⟨n, Hf, σd, Same.refl _, r, p⟩, ?_⟩
    rintro m σ H ⟨Hf1, s, sm, r, p⟩
    cases m with
    | zero => exact p.elim
    | succ m =>
      unfold whileN at p
      refine (st_seq r p).imp fun b H1 ⟨Hf2, s1, d, e1, r1, hx, p1⟩ => ?_
      subst hx
      cases b with
      | true =>
        rw [if_pos rfl] at p1 ⊢
        refine ⟨fun σ' H' => ∃ Hf' s', Same Hf Hf' ∧ RS X.K B σ' s' Hf' H' ∧ PSt X.K B W Hf' (whileN f g m s') Z, fun σ' H' q => ⟨m, Nat.lt_succ_self m, q⟩, B, s1, Hf2, r1, ?_⟩
        have sm' : Same Hf Hf2 := sm.trans e1
        cases eb : g s1 with
        | ok s3 o =>
          rw [eb] at p1
          cases o with
          | nx => exact fun σ' H' Hf3 t1 t2 => ⟨Hf3, s3, sm'.trans t1, t2, PSt.mono p1 t1⟩
          | ct => exact fun σ' H' Hf3 t1 t2 => ⟨Hf3, s3, sm'.trans t1, t2, PSt.mono p1 t1⟩
          | bk => exact p1
          | rt q => cases q <;> exact p1
        | exc s3 e => rw [eb] at p1; exact p1
        | stk => rw [eb] at p1; exact p1
      | false =>
        rw [if_neg Bool.false_ne_true] at p1 ⊢
        exact p1.nx r1
end
end DL
/-! DL4: comprehensions. -/
namespace DL
open PySem L2

def wipeD (s : SD) : List Nat → SD
  | [] => s
  | v :: vs => (wipeD s vs).set v .un
/-- the targets' slots as they stood in s -/
def backD (s : SD) : List Nat → SD → SD
  | [], s' => s'
  | v :: vs, s' => backD s vs (s'.set v (if vs.contains v then .un else (s[v]?).getD .un))
/-- no slot at vs holds an object of our own -/
def noCell (s : SD) (vs : List Nat) : Bool := vs.all fun v => match s[v]? with
  | some (.ow _) => false
  | some (.rf _ _) => false
  | _ => true
section
variable {K : PySem.W.Frag} {B : Bs} {Hf H Hf' H' : Hp} {σ : St} {σd : SD}
theorem RS.wipe (r : RS K B σ σd Hf H) : ∀ vs : List Nat, RS K B (wipe σ vs) (wipeD σd vs) Hf H
  | [] => r
  | v :: vs => (RS.wipe r vs).set_un v none
theorem set_back {τ : St} {v : Nat} {o : Option V} (h : τ[v]? = some o) : (τ.set v none).set v o = τ := by
  rw [List.set_set]
  apply List.ext_getElem?
  intro j
  rw [List.getElem?_set]
  split
  · rename_i e
    subst e
    rw [if_pos (List.getElem?_eq_some_iff.mp h).1, h]
  · rfl
theorem set_out {τ : St} {v : Nat} {o : Option V} (h : τ[v]? = none) : τ.set v o = τ := List.set_eq_of_length_le (by rw [List.getElem?_eq_none_iff] at h; exact h)
theorem RS.un_any {v : Nat} (r : RS K B (σ.set v none) σd Hf H) : RS K B σ (σd.set v .un) Hf H := by
  cases h : σ[v]? with
  | none => rw [set_out h] at r; have z := r.set_un v none; rw [set_out h] at z; exact z
  | some o => have z := r.set_un v o; rw [set_back h] at z; exact z
theorem RS.back1 {v : Nat} {x : Sl} (r : RS K B (σ.set v none) σd Hf H) (hx : x = .un ∨ ∃ d w, x = .fz d ∧ σ[v]? = some (some w) ∧ Rep K Hf d w) : RS K B σ (σd.set v x) Hf H := by
  rcases hx with rfl | ⟨d, w, rfl, h1, h2⟩
  · exact r.un_any
  · have z := r.un_any.set_fz v h2
    rw [List.set_set] at z
    have e : σ.set v (some w) = σ := by
      have q := set_back h1
      rwa [List.set_set] at q
    rwa [e] at z
theorem wipe_get {σ : St} {i : Nat} : ∀ {vs : List Nat}, i ∉ vs → (L2.wipe σ vs)[i]? = σ[i]?
  | [], _ => rfl
  | v :: vs, h => by
    unfold L2.wipe
    rw [List.getElem?_set_ne (fun z => h (by rw [z]; exact List.mem_cons_self))]
    exact wipe_get fun z => h (List.mem_cons_of_mem _ z)
theorem RS.back {s : SD} (r0 : RS K B σ s Hf H) (sm : Same Hf Hf') : ∀ (vs : List Nat) {s' : SD}, noCell s vs = true → RS K B (L2.wipe σ vs) s' Hf' H' → RS K B σ (backD s vs s') Hf' H'
  | [], s', _, r => r
  | v :: vs, s', hn, r => by
    have hn2 : noCell s vs = true := by
      unfold noCell at hn ⊢
      rw [List.all_cons, Bool.and_eq_true] at hn
      exact hn.2
    refine RS.back r0 sm vs hn2 (RS.back1 r ?_)
    split
    · exact .inl rfl
    · rename_i hc
      have hv : v ∉ vs := fun z => hc (by simpa using z)
      unfold noCell at hn
      rw [List.all_cons, Bool.and_eq_true] at hn
      have h1 := hn.1
      cases e : s[v]? with
      | none => exact .inl rfl
      | some x =>
        cases x with
        | un => exact .inl rfl
        | fz d =>
          obtain ⟨w, e1, e2⟩ := r0.sl v d e
          exact .inr ⟨d, w, rfl, by rw [wipe_get hv]; exact e1, Rep.mono sm e2⟩
        | ow c => rw [e] at h1; cases h1
        | rf k c => rw [e] at h1; cases h1
theorem noCell_cons {s : SD} {v : Nat} {vs : List Nat} (h : noCell s (v :: vs) = true) : noCell s vs = true ∧ ((s[v]?).getD .un).cell = none := by
  unfold noCell at h ⊢
  rw [List.all_cons, Bool.and_eq_true] at h
  refine ⟨h.2, ?_⟩
  have h1 := h.1
  cases e : s[v]? with
  | none => rfl
  | some x => cases x <;> first | rfl | (rw [e] at h1; cases h1)
theorem backD_get {s : SD} {i : Nat} {t : Sl} {c : D} (ec : t.cell = some c) : ∀ (vs : List Nat) {s' : SD}, noCell s vs = true → (backD s vs s')[i]? = some t → i ∉ vs ∧ s'[i]? = some t
  | [], s', _, h => ⟨by simp, h⟩
  | v :: vs, s', hn, h => by
    obtain ⟨h1, h2⟩ := noCell_cons hn
    obtain ⟨q1, q2⟩ := backD_get ec vs h1 h
    by_cases z : i = v
    · subst z
      have e := set_self q2
      split at e
      · subst e; cases ec
      · subst e; rw [h2] at ec; cases ec
    · rw [List.getElem?_set_ne (Ne.symm z)] at q2
      exact ⟨fun hm => (List.mem_cons.mp hm).elim z q1, q2⟩
/-- a list more is set aside -/
def Bs.aside (B : Bs) (a : Addr) (xs : List V) : Bs := { B with P := upd B.P a (.lst xs) }
theorem Bs.aside_at {B : Bs} {a : Addr} {xs : List V} : (B.aside a xs).P a = some (.lst xs) := upd_same
theorem Bs.aside_ne {B : Bs} {a b : Addr} {xs : List V} (h : b ≠ a) : (B.aside a xs).P b = B.P b := upd_ne h
/-- a fresh list is set aside -/
theorem RS.aside {l : List D} {a : Addr} {xs : List V} (r : RS K B σ σd Hf H) (f : Fresh K B σ σd Hf H (.lst l) a) (h : H a = some (.lst xs)) : RS K (B.aside a xs) σ σd Hf H where
  sub := r.sub
  pa := fun b o e => by
    by_cases z : b = a
    · subst z; rw [Bs.aside_at] at e; cases e; exact h
    · rw [Bs.aside_ne z] at e; exact r.pa b o e
  dj := fun b o e => by
    by_cases z : b = a
    · subst z; exact f.cell.free
    · rw [Bs.aside_ne z] at e; exact r.dj b o e
  pr := fun b hb => by rw [Bs.aside_ne (fun z => f.out (by rw [← z]; exact hb))]; exact r.pr b hb
  rh := r.rh
  len := r.len
  sl := r.sl
  ow := fun i c e => by
    obtain ⟨b, h1, h2, h3, h4⟩ := r.ow i c e
    have nb : b ≠ a := fun z => by subst z; exact f.ne i _ c e rfl h1
    refine ⟨b, h1, by rw [Bs.aside_ne nb]; exact h2, h3, h4.keep (Same.refl _) (fun _ _ e1 e2 _ => ⟨e1, e2⟩) fun dx z e2 => ?_⟩
    rw [Bs.aside_ne (fun y => by rw [y, h] at e2; cases e2)]
    exact z
  rf := r.rf
  inj := r.inj
/-- the list set aside is written -/
theorem RS.asideW {a : Addr} {xs ys : List V} (r : RS K (B.aside a xs) σ σd Hf H) : RS K (B.aside a ys) σ σd Hf (upd H a (.lst ys)) := by
  have h : H a = some (.lst xs) := r.pa a _ upd_same
  have hf : Hf a = none := r.dj a _ upd_same
  have pn : ∀ b, upd B.P a (.lst xs) b = none → b ≠ a ∧ upd B.P a (.lst ys) b = none := fun b e => by
    have nb : b ≠ a := fun z => by rw [z, upd_same] at e; cases e
    rw [upd_ne nb] at e
    exact ⟨nb, by rw [upd_ne nb]; exact e⟩
  have cl : ∀ {N N' : Addr → Prop} {c : D} {b : Addr}, b ≠ a → Cell K N Hf H c b → (∀ dx, N dx → dx ≠ a → N' dx) → Cell K N' Hf (upd H a (.lst ys)) c b := fun nb hc hN => by
    refine hc.keep (Same.refl _) (fun x o e1 e2 e3 => ⟨?_, e2⟩) fun dx z e2 => hN dx z fun y => by rw [y, h] at e2; cases e2
    have nx : x ≠ a := fun z => by
      subst z
      rcases e3 with e3 | e3
      · exact nb e3.symm
      · subst e3; rw [h] at e1; cases e1
    rw [upd_ne nx]
    exact e1
  refine ⟨fun b o e => ?_, fun b o e => ?_, fun b o e => ?_, fun b hb => (pn b (r.pr b hb)).2, fun b hb => ?_, r.len, r.sl, fun i c e => ?_, fun i k c e => ?_, r.inj⟩
  · rw [upd_ne (ne_of_none e hf)]; exact r.sub b o e
  · by_cases z : b = a
    · subst z; rw [Bs.aside_at] at e; rw [upd_same]; exact e
    · rw [Bs.aside_ne z] at e; rw [upd_ne z]; exact r.pa b o (by rw [Bs.aside_ne z]; exact e)
  · by_cases z : b = a
    · subst z; exact hf
    · rw [Bs.aside_ne z] at e; exact r.dj b o (by rw [Bs.aside_ne z]; exact e)
  · obtain ⟨o, e⟩ := r.rh b hb
    exact ⟨o, by rw [upd_ne (pn b (r.pr b hb)).1]; exact e⟩
  · obtain ⟨b, h1, h2, h3, h4⟩ := r.ow i c e
    exact ⟨b, h1, (pn b h2).2, h3, cl (pn b h2).1 h4 fun dx z n => (pn dx z).2⟩
  · obtain ⟨b, h1, h3, h4⟩ := r.rf i k c e
    exact ⟨b, h1, h3, cl (pn b (r.pr b (List.mem_of_getElem? h3))).1 h4 fun _ z _ => z⟩
/-- .. and is ours again -/
theorem RS.unaside {a : Addr} {xs : List V} {l : List D} (r : RS K (B.aside a xs) σ σd Hf H) (p0 : B.P a = none) (hx : Reps K Hf l xs) : RS K B σ σd Hf H ∧ Fresh K B σ σd Hf H (.lst l) a := by
  have h : H a = some (.lst xs) := r.pa a _ upd_same
  have hf : Hf a = none := r.dj a _ upd_same
  have pn : ∀ b, upd B.P a (.lst xs) b = none → b ≠ a ∧ B.P b = none := fun b e => by
    have nb : b ≠ a := fun z => by rw [z, upd_same] at e; cases e
    rw [upd_ne nb] at e
    exact ⟨nb, e⟩
  refine ⟨⟨r.sub, fun b o e => ?_, fun b o e => ?_, fun b hb => (pn b (r.pr b hb)).2, r.rh, r.len, r.sl, fun i c e => ?_, r.rf, r.inj⟩, ⟨p0, fun z => ?_, ⟨hf, xs, h, hx⟩, fun i s c e ec z => ?_⟩⟩
  · exact r.pa b o (by rw [Bs.aside_ne (ne_of_none e p0)]; exact e)
  · exact r.dj b o (by rw [Bs.aside_ne (ne_of_none e p0)]; exact e)
  · obtain ⟨b, h1, h2, h3, h4⟩ := r.ow i c e
    exact ⟨b, h1, (pn b h2).2, h3, h4.keep (Same.refl _) (fun _ _ e1 e2 _ => ⟨e1, e2⟩) fun dx z _ => (pn dx z).2⟩
  · have q : upd B.P a (.lst xs) a = none := r.pr a z
    rw [upd_same] at q; cases q
  · obtain ⟨b, h1, h2, _⟩ := r.cellAt e ec
    rw [z] at h1
    cases h1
    have h2' : upd B.P a (.lst xs) a = none := h2
    rw [upd_same] at h2'; cases h2'
end

/-! ### [e for x in xs if t] -/
def lcL (u : D → SD → Option SD) (c : F Bool) (f : F D) (vs : List Nat) : List D → SD → R SD (List D)
  | [], s => .ok s []
  | d :: l, s => match u d s with
    | none => .stk
    | some s1 => match c s1 with
      | .ok s2 true => (match f s2 with
        | .ok s3 y => (match lcL u c f vs l (wipeD s3 vs) with
          | .ok s4 ys => .ok s4 (y :: ys)
          | _ => .stk)
        | _ => .stk)
      | .ok s2 false => lcL u c f vs l (wipeD s2 vs)
      | _ => .stk
def dLc (i : F (List D)) (u : D → SD → Option SD) (c : F Bool) (f : F D) (vs : List Nat) : F D := dB i fun l s =>
  if (noCell s vs && okLen l.length) = true then (match lcL u c f vs l (wipeD s vs) with
    | .ok s' ys => .ok (backD s vs s') (.lst ys)
    | _ => .stk) else .stk
def dYes : F Bool := dP true
abbrev DTs (X : Cx) (W : WX) (es : List Expr) (f : F Bool) : Prop := PTs X es (tMT X.K W f)
abbrev W0 : WX := fun _ _ _ _ => False
section
variable {X : Cx} {W : WX}
theorem dts_nil : DTs X W [] dYes := ⟨fun pins s σ H Q I ⟨B, σd, Hf, r, p⟩ => pts_nil.run pins s σ H Q I (p.done r rfl)⟩
theorem dts_one {c : Expr} {f : F Bool} (h : DT X W c f) : DTs X W [c] f := pts_one h
theorem PO.get {K : PySem.W.Frag} {B : Bs} {Hf : Hp} {σ : St} {α β : Type} {rep : Hp → α → β → Prop} {r : R SD α} {s : SD} {a : α} {Q : β → Hp → Prop} (e : r = .ok s a) (k : ∀ v H' Hf', Same Hf Hf' → RS K B σ s Hf' H' → rep Hf' a v → Q v H') : PO K B σ W rep Hf r Q := by
  subst e
  exact k
/-- the turns of one clause: from l.drop i on the lists made are ys -/
theorem lc_turns {J : It} {g : TG} {tt : TT} {te : TE} {K : PySem.W.Frag} {B : Bs} {Hf1 H1 : Hp} {σ : St} {s0 s' : SD} {l ys : List D} {u : D → SD → Option SD} {is : List Nat} {c : F Bool} {f : F D} {vs : List Nat} {A : Addr} {Qd : Hp → Prop}
    (hg : ∀ v σ H Q, tTg K u is v σ H Q → g v σ H Q) (ht : ∀ σ H Q, tMT K W0 c σ H Q → tt σ H Q) (he : ∀ σ H Q, tM K W0 f σ H Q → te σ H Q)
    (his : ∀ i ∈ is, i ∈ vs) (hl : l.length ≤ sizeLine) (hx : ItD K Hf1 J l) (r0 : RS K B σ s0 Hf1 H1) (n : H1 A = none) (e : lcL u c f vs l (wipeD s0 vs) = .ok s' ys)
    (fin : ∀ Hf' H', Same Hf1 Hf' → RS K B (wipe σ vs) s' Hf' H' → Fresh K B (wipe σ vs) s' Hf' H' (.lst ys) A → Qd H') :
    ∃ Wn : Nat → Nat → Hp → Prop, (∃ m, Wn 0 m (upd H1 A (.lst []))) ∧ ∀ i m H, Wn i m H →
      (J.stop i H ∧ Qd H) ∨ (J.go i H ∧ ∃ Nx : Hp → Prop, (∀ H', Nx H' → ∃ m', m' < m ∧ Wn (i + 1) m' H') ∧ ∀ x H', J.yld i H x H' → g x (wipe σ vs) H' fun σ2 H2 => wipe σ2 vs = wipe σ vs ∧ tt σ2 H2 fun b H3 =>
        if b = true then te σ2 H3 fun y H4 => ∃ acc, H4 A = some (.lst acc) ∧ acc.length < sizeLine ∧ Nx (upd H4 A (.lst (acc ++ [y]))) else Nx H3) := by
  have p0 : B.P A = none := r0.freshP n
  let Iv : Nat → Hp → Prop := fun i H => ∃ Hf s acc done rest, Same Hf1 Hf ∧ RS K (B.aside A acc) (wipe σ vs) s Hf H ∧ Reps K Hf done acc ∧ acc.length ≤ i ∧ lcL u c f vs (l.drop i) s = .ok s' rest ∧ ys = done ++ rest
  refine ⟨fun i m H => m = l.length - i ∧ i ≤ l.length ∧ Iv i H, ⟨l.length, by simp, Nat.zero_le _, Hf1, wipeD s0 vs, [], [], ys, Same.refl _, ?_, Reps.nil, Nat.le_refl _, e, rfl⟩, ?_⟩
  · obtain ⟨r1, f1⟩ := Fresh.lst (l := []) (r0.wipe vs) n Reps.nil
    exact r1.aside f1 upd_same
  rintro i m H ⟨rfl, hi, Hf, s, acc, dn, rest, sm, r, hr, hal, e, ey⟩
  obtain ⟨go, stop⟩ := hx i Hf H sm r.sub
  by_cases hlt : i < l.length
  · obtain ⟨go1, go2⟩ := go hlt
    refine .inr ⟨go1, Iv (i + 1), fun H' q => ⟨l.length - (i + 1), by omega, rfl, hlt, q⟩, fun x H' y => ?_⟩
    obtain ⟨Hf', g1, g2, d, ed, hd⟩ := go2 x H' y
    have r' := r.grow g1 g2
    have ec : l.drop i = d :: l.drop (i + 1) := by
      obtain ⟨h1, h2⟩ := List.getElem?_eq_some_iff.mp ed
      rw [← h2]
      exact List.drop_eq_getElem_cons h1
    rw [ec] at e
    unfold lcL at e
    cases eu : u d s with
    | none => rw [eu] at e; cases e
    | some s1 =>
      rw [eu] at e
      dsimp only at e
      refine hg _ _ _ _ ⟨B.aside A acc, s, Hf', d, s1, r', hd, eu, fun σ2 r2 o2 => ?_⟩
      have hw : wipe σ2 vs = wipe σ vs := by
        have z := o2 vs his
        have idem : wipe (wipe σ vs) vs = wipe σ vs := by
          have : ∀ ws : List Nat, (∀ i ∈ ws, i ∈ vs) → wipe (wipe σ ws) vs = wipe σ vs := fun ws => by
            induction ws with
            | nil => intro _; rfl
            | cons w ws ih =>
              intro h
              show wipe ((wipe σ ws).set w none) vs = _
              rw [wipe_set (h w (by simp)), ih fun i hi => h i (List.mem_cons_of_mem _ hi)]
          exact this vs fun _ h => h
        rw [z, idem]
      refine ⟨hw, ?_⟩
      have sm1 : Same Hf1 Hf' := sm.trans g1.fz
      cases ecn : c s1 with
      | ok s2 b =>
        rw [ecn] at e
        refine ht _ _ _ ⟨B.aside A acc, s1, Hf', r2, PO.get ecn fun b' H3 Hf3 t1 r3 eb => ?_⟩
        subst eb
        cases b' with
        | false =>
          rw [if_neg Bool.false_ne_true]
          refine ⟨Hf3, wipeD s2 vs, acc, dn, rest, sm1.trans t1, ?_, Reps.mono (g1.fz.trans t1) hr, Nat.le_succ_of_le hal, e, ey⟩
          have z := r3.wipe vs
          rwa [hw] at z
        | true =>
          rw [if_pos rfl]
          dsimp only at e
          cases ef : f s2 with
          | ok s3 y =>
            rw [ef] at e
            dsimp only at e
            cases el : lcL u c f vs (l.drop (i + 1)) (wipeD s3 vs) with
            | ok s4 rest' =>
              rw [el] at e
              cases e
              refine he _ _ _ ⟨B.aside A acc, s2, Hf3, r3, PO.get ef fun yv H4 Hf4 t2 r4 hy => ?_⟩
              refine ⟨acc, r4.pa A _ upd_same, by omega, Hf4, wipeD s3 vs, acc ++ [yv], dn ++ [y], rest', (sm1.trans t1).trans t2, ?_, ?_, ?_, el, by rw [ey]; simp⟩
              · have z := (r4.wipe vs).asideW (ys := acc ++ [yv])
                rwa [hw] at z
              · exact Reps.app (Reps.mono ((g1.fz.trans t1).trans t2) hr) (Reps.one hy)
              · rw [List.length_append, List.length_singleton]; omega
            | exc s4 x => rw [el] at e; cases e
            | stk => rw [el] at e; cases e
          | exc s3 x => rw [ef] at e; cases e
          | stk => rw [ef] at e; cases e
      | exc s2 x => rw [ecn] at e; cases e
      | stk => rw [ecn] at e; cases e
  · have ei : i = l.length := by omega
    refine .inl ⟨stop ei, ?_⟩
    rw [ei, List.drop_length] at e
    unfold lcL at e
    cases e
    rw [List.append_nil] at ey
    subst ey
    obtain ⟨q1, q2⟩ := r.unaside p0 hr
    exact fin Hf H sm q1 q2
theorem df_lc {elt tg iter : Expr} {ifs : List Expr} {scope : Scope} {own : List (Str × Nat)} {pos : Pos} {i : F (List D)} {u : D → SD → Option SD} {is : List Nat} {c : F Bool} {f : F D} (hc : X.calm = true) (hN : X.N.Nodup) (hi : DI X W tg iter i) (ok : BlkOk X.N X.env.scope scope own)
    (hg : ∀ (s : Shared) (H : Hp) (C : Addr) (cl : List (Str × Addr)) (fp : List Addr), DG (X.blk s H scope (compEnvC scope cl C X.env) fp) tg u is) (ht : ∀ (s : Shared) (H : Hp) (C : Addr) (cl : List (Str × Addr)) (fp : List Addr), DTs (X.blk s H scope (compEnvC scope cl C X.env) fp) W0 ifs c)
    (he : ∀ (s : Shared) (H : Hp) (C : Addr) (cl : List (Str × Addr)) (fp : List Addr), DE (X.blk s H scope (compEnvC scope cl C X.env) fp) W0 elt f) (his : ∀ j ∈ is, j ∈ own.map (·.2) := by decide) (hs : ∀ x, foldedSetIterable iter X.env x = pure x := by intro _; rfl) :
    DF X W (.ListComp elt [⟨tg, iter, ifs, 0⟩] scope pos) (dLc i u c f (own.map (·.2))) :=
  (pe_lc hc hN hi ok hg ht he hs).imp fun σ H Q ⟨B, σd, Hf, r, p⟩ => (fr_seq r p).imp fun J H1 ⟨Hf1, s1, l, e1, r1, hx, p1⟩ => by
    split at p1
    · rename_i h0
      rw [Bool.and_eq_true] at h0
      intro A n
      cases e : lcL u c f (own.map (·.2)) l (wipeD s1 (own.map (·.2))) with
      | ok s' ys =>
        rw [e] at p1
        refine lc_turns (fun _ _ _ _ q => q) (fun _ _ _ q => q) (fun _ _ _ q => q) his (okLen_ok h0.2) hx r1 n e fun Hf' H' sm r2 fr => ?_
        have rb := RS.back r1 sm (own.map (·.2)) h0.1 r2
        refine p1 A H' Hf' sm rb ⟨fr.new, fr.out, fr.cell, fun i s c e ec z => ?_⟩
        obtain ⟨q1, q2⟩ := backD_get ec _ h0.1 e
        exact fr.ne i s c q2 ec (by rw [wipe_get q1]; exact z)
      | exc s' x => rw [e] at p1; exact p1.elim
      | stk => rw [e] at p1; exact p1.elim
    · exact p1.elim
end
end DL
/-! DL5: what a def promises by a function on data; a def by its body; calls. -/
namespace DL
open PySem L2

/-- an argument: data, or an object that the def may change -/
inductive Ar where
  | v (d : D) | r (c : D)
def ArgsAt (K : PySem.W.Frag) (N : Addr → Addr → Prop) (Hf H : Hp) : List Ar → List V → List Addr → Prop
  | [], vs, ρ => vs = [] ∧ ρ = []
  | .v d :: l, vs, ρ => ∃ v t, vs = v :: t ∧ Rep K Hf d v ∧ ArgsAt K N Hf H l t ρ
  | .r c :: l, vs, ρ => ∃ a t ρ', vs = .ref a :: t ∧ ρ = a :: ρ' ∧ Cell K (N a) Hf H c a ∧ ArgsAt K N Hf H l t ρ'
def Cells (K : PySem.W.Frag) (N : Addr → Addr → Prop) (Hf H : Hp) : List D → List Addr → Prop
  | [], ρ => ρ = []
  | c :: cs, ρ => ∃ a ρ', ρ = a :: ρ' ∧ Cell K (N a) Hf H c a ∧ Cells K N Hf H cs ρ'
abbrev Fn := List Ar → R (List D) Rt
/-- what is to be shown behind a call -/
def PC' (K : PySem.W.Frag) (N : Addr → Addr → Prop) (ρ : List Addr) (Hf H : Hp) (r : R (List D) Rt) (Q : VK) (E : XK) : Prop := match r with
  | .ok cs (.fz d) => ∀ v H' Hf', Gr ρ Hf H Hf' H' → Same Hf' H' → Cells K N Hf' H' cs ρ → Rep K Hf' d v → Q v H'
  | .ok cs (.ow c) => ∀ a H' Hf', Gr ρ Hf H Hf' H' → Same Hf' H' → Cells K N Hf' H' cs ρ → H a = none → Cell K (fun x => H x = none) Hf' H' c a → Q (.ref a) H'
  | .exc cs e => ∀ dx H' Hf', Gr ρ Hf H Hf' H' → Same Hf' H' → Cells K N Hf' H' cs ρ → ExcAt K Hf' H' e dx → E (.ref (He.ga K e.c)) (some dx) H'
  | .stk => False
/-- THE PROMISE of a def by a function on data -/
def spD (K : PySem.W.Frag) (np : Nat) (f : Fn) : Sp := fun vs H Q E => vs.length = np ∧ ∃ Hf N ars ρ, Same Hf H ∧ ArgsAt K N Hf H ars vs ρ ∧ ρ.Nodup ∧ PC' K N ρ Hf H (f ars) Q E

/-! ### a def by its body -/
def slotsOf : List Ar → Nat → SD
  | [], _ => []
  | .v d :: l, k => .fz d :: slotsOf l k
  | .r c :: l, k => .rf k c :: slotsOf l (k + 1)
def nrf : List Ar → Nat
  | [] => 0
  | .v _ :: l => nrf l
  | .r _ :: l => nrf l + 1
def rfOf : SD → Nat → Option D
  | [], _ => none
  | .rf j c :: s, k => if j = k then some c else rfOf s k
  | _ :: s, k => rfOf s k
/-- the changeable arguments as they stand, from the k-th on -/
def outs (s : SD) : Nat → Nat → Option (List D)
  | 0, _ => some []
  | n + 1, k => match rfOf s k, outs s n (k + 1) with
    | some c, some cs => some (c :: cs)
    | _, _ => none
def runD (m : Nat) (g : G) (ars : List Ar) : R (List D) Rt :=
  match g (slotsOf ars 0 ++ List.replicate (m - ars.length) .un) with
  | .ok s (.rt r) => (match outs s (nrf ars) 0 with | some cs => .ok cs r | none => .stk)
  | .ok s .nx => (match outs s (nrf ars) 0 with | some cs => .ok cs (.fz .non) | none => .stk)
  | .exc s e => (match outs s (nrf ars) 0 with | some cs => .exc cs e | none => .stk)
  | _ => .stk
section
variable {K : PySem.W.Frag} {N : Addr → Addr → Prop} {Hf H : Hp}
theorem ArgsAt.len : ∀ {ars : List Ar} {vs : List V} {ρ : List Addr}, ArgsAt K N Hf H ars vs ρ → vs.length = ars.length ∧ ρ.length = nrf ars
  | [], vs, ρ, h => by
    obtain ⟨rfl, rfl⟩ := h
    exact ⟨rfl, rfl⟩
  | .v d :: l, vs, ρ, h => by
    obtain ⟨v, t, rfl, _, h⟩ := h
    obtain ⟨h1, h2⟩ := ArgsAt.len h
    exact ⟨by rw [List.length_cons, List.length_cons, h1], h2⟩
  | .r c :: l, vs, ρ, h => by
    obtain ⟨a, t, ρ', rfl, rfl, _, h⟩ := h
    obtain ⟨h1, h2⟩ := ArgsAt.len h
    exact ⟨by rw [List.length_cons, List.length_cons, h1], by rw [List.length_cons, h2]; rfl⟩
theorem slotsOf_len : ∀ (l : List Ar) (k : Nat), (slotsOf l k).length = l.length
  | [], _ => rfl
  | .v d :: l, k => by rw [slotsOf, List.length_cons, List.length_cons, slotsOf_len]
  | .r c :: l, k => by rw [slotsOf, List.length_cons, List.length_cons, slotsOf_len]
theorem slotsOf_fz : ∀ {ars : List Ar} {vs : List V} {ρ : List Addr} {k i : Nat} {d : D}, ArgsAt K N Hf H ars vs ρ → (slotsOf ars k)[i]? = some (.fz d) → ∃ v, vs[i]? = some v ∧ Rep K Hf d v
  | [], vs, ρ, k, i, d, h, e => by simp [slotsOf] at e
  | .v d0 :: l, vs, ρ, k, i, d, h, e => by
    obtain ⟨v, t, rfl, hv, h⟩ := h
    cases i with
    | zero => simp [slotsOf] at e; subst e; exact ⟨v, rfl, hv⟩
    | succ i => simp [slotsOf] at e; obtain ⟨w, e1, e2⟩ := slotsOf_fz h e; exact ⟨w, by simpa using e1, e2⟩
  | .r c :: l, vs, ρ, k, i, d, h, e => by
    obtain ⟨a, t, ρ', rfl, rfl, _, h⟩ := h
    cases i with
    | zero => simp [slotsOf] at e
    | succ i => simp [slotsOf] at e; obtain ⟨w, e1, e2⟩ := slotsOf_fz h e; exact ⟨w, by simpa using e1, e2⟩
theorem slotsOf_rf : ∀ {ars : List Ar} {vs : List V} {ρ : List Addr} {k i j : Nat} {c : D}, ArgsAt K N Hf H ars vs ρ → (slotsOf ars k)[i]? = some (.rf j c) → ∃ a n, vs[i]? = some (.ref a) ∧ j = k + n ∧ ρ[n]? = some a ∧ Cell K (N a) Hf H c a
  | [], vs, ρ, k, i, j, c, h, e => by simp [slotsOf] at e
  | .v d0 :: l, vs, ρ, k, i, j, c, h, e => by
    obtain ⟨v, t, rfl, hv, h⟩ := h
    cases i with
    | zero => simp [slotsOf] at e
    | succ i => simp [slotsOf] at e; obtain ⟨a, n, e1, e2⟩ := slotsOf_rf h e; exact ⟨a, n, by simpa using e1, e2⟩
  | .r c0 :: l, vs, ρ, k, i, j, c, h, e => by
    obtain ⟨a, t, ρ', rfl, rfl, hc, h⟩ := h
    cases i with
    | zero =>
      simp [slotsOf] at e
      obtain ⟨rfl, rfl⟩ := e
      exact ⟨a, 0, rfl, rfl, rfl, hc⟩
    | succ i =>
      simp [slotsOf] at e
      obtain ⟨b, n, e1, e2, e3, e4⟩ := slotsOf_rf h e
      exact ⟨b, n + 1, by simpa using e1, by omega, by simpa using e3, e4⟩
theorem slotsOf_ow : ∀ {ars : List Ar} {k i : Nat} {c : D}, (slotsOf ars k)[i]? ≠ some (.ow c)
  | [], k, i, c => by simp [slotsOf]
  | .v d0 :: l, k, i, c => by
    cases i with
    | zero => simp [slotsOf]
    | succ i => simp only [slotsOf, List.getElem?_cons_succ]; exact slotsOf_ow
  | .r c0 :: l, k, i, c => by
    cases i with
    | zero => simp [slotsOf]
    | succ i => simp only [slotsOf, List.getElem?_cons_succ]; exact slotsOf_ow
/-- every address of ρ stands at a changeable argument -/
theorem ArgsAt.rho : ∀ {ars : List Ar} {vs : List V} {ρ : List Addr} {a : Addr}, ArgsAt K N Hf H ars vs ρ → a ∈ ρ → ∃ c, Cell K (N a) Hf H c a
  | [], vs, ρ, a, h, m => by obtain ⟨_, rfl⟩ := h; cases m
  | .v d0 :: l, vs, ρ, a, h, m => by obtain ⟨v, t, rfl, hv, h⟩ := h; exact ArgsAt.rho h m
  | .r c0 :: l, vs, ρ, a, h, m => by
    obtain ⟨b, t, ρ', rfl, rfl, hc, h⟩ := h
    rcases List.mem_cons.mp m with e | m
    · subst e; exact ⟨c0, hc⟩
    · exact ArgsAt.rho h m
theorem rfOf_mem : ∀ {s : SD} {k : Nat} {c : D}, rfOf s k = some c → ∃ i : Nat, s[i]? = some (Sl.rf k c)
  | [], k, c, h => by cases h
  | .rf j d :: s, k, c, h => by
    unfold rfOf at h
    split at h
    · rename_i e; subst e; cases h; exact ⟨0, rfl⟩
    · obtain ⟨i, e⟩ := rfOf_mem h; exact ⟨i + 1, by simpa using e⟩
  | .un :: s, k, c, h => by obtain ⟨i, e⟩ := rfOf_mem (s := s) h; exact ⟨i + 1, by simpa using e⟩
  | .fz d :: s, k, c, h => by obtain ⟨i, e⟩ := rfOf_mem (s := s) h; exact ⟨i + 1, by simpa using e⟩
  | .ow d :: s, k, c, h => by obtain ⟨i, e⟩ := rfOf_mem (s := s) h; exact ⟨i + 1, by simpa using e⟩
theorem outs_cells {B : Bs} {σ : St} {s : SD} (r : RS K B σ s Hf H) : ∀ (n k : Nat) {cs : List D}, outs s n k = some cs → n + k = B.ρ.length → Cells K B.N Hf H cs (B.ρ.drop k)
  | 0, k, cs, h, e => by
    cases h
    show B.ρ.drop k = []
    rw [List.drop_eq_nil_iff]
    omega
  | n + 1, k, cs, h, e => by
    unfold outs at h
    split at h
    · rename_i c cs' e1 e2
      cases h
      obtain ⟨i, ei⟩ := rfOf_mem e1
      obtain ⟨a, h1, h2, h3⟩ := r.rf i k c ei
      obtain ⟨hk, hk2⟩ := List.getElem?_eq_some_iff.mp h2
      refine ⟨a, B.ρ.drop (k + 1), ?_, h3, outs_cells r n (k + 1) e2 (by omega)⟩
      rw [← hk2]
      exact List.drop_eq_getElem_cons hk
    · cases h
/-- the entry of a def -/
theorem RS.start {ars : List Ar} {vs : List V} {ρ : List Addr} {m : Nat} (sm : Same Hf H) (h : ArgsAt K N Hf H ars vs ρ) (nd : ρ.Nodup) :
    ∃ B : Bs, B.ρ = ρ ∧ B.N = N ∧ (∀ a, Hf a = none → a ∉ ρ → B.P a = H a) ∧ RS K B (vs.map some ++ List.replicate (m - vs.length) none) (slotsOf ars 0 ++ List.replicate (m - ars.length) .un) Hf H := by
  classical
  have hl := h.len
  refine ⟨⟨fun a => if Hf a = none ∧ a ∉ ρ then H a else none, ρ, N⟩, rfl, rfl, fun a e n => if_pos ⟨e, n⟩, ?_⟩
  have un : ∀ (i : Nat) t, (slotsOf ars 0 ++ List.replicate (m - ars.length) .un)[i]? = some t → t ≠ .un → (slotsOf ars 0)[i]? = some t := fun i t e n => by
    by_cases hi : i < (slotsOf ars 0).length
    · rwa [List.getElem?_append_left hi] at e
    · rw [List.getElem?_append_right (by omega), List.getElem?_replicate] at e
      split at e
      · cases e; exact absurd rfl n
      · cases e
  have vv : ∀ (i : Nat) v, vs[i]? = some v → (vs.map some ++ List.replicate (m - vs.length) none)[i]? = some (some v) := fun i v e => by
    have hi : i < vs.length := (List.getElem?_eq_some_iff.mp e).1
    rw [List.getElem?_append_left (by simpa using hi), List.getElem?_map, e]
    rfl
  refine ⟨sm, fun a o e => ?_, fun a o e => ?_, fun a ha => if_neg fun z => z.2 ha, fun a ha => ?_, by simp [slotsOf_len, hl.1], fun i d e => ?_, fun i c e => absurd (un i _ e (by intro z; cases z)) slotsOf_ow, fun i k c e => ?_, fun i j s t c c' a e1 c1 e2 c2 l1 l2 => ?_⟩
  · dsimp only at e
    split at e
    · exact e
    · cases e
  · dsimp only at e
    split at e
    · rename_i q; exact q.1
    · cases e
  · obtain ⟨c, hc⟩ := h.rho ha
    exact hc.there
  · obtain ⟨v, e1, e2⟩ := slotsOf_fz h (un i _ e (by intro z; cases z))
    exact ⟨v, vv i v e1, e2⟩
  · obtain ⟨a, n, e1, e2, e3, e4⟩ := slotsOf_rf h (un i _ e (by intro z; cases z))
    have : k = n := by omega
    subst this
    exact ⟨a, vv i _ e1, e3, e4⟩
  · -- two changeable arguments at one place of ρ
    have ks : ∀ (i : Nat) s c, (slotsOf ars 0 ++ List.replicate (m - ars.length) .un)[i]? = some s → s.cell = some c → (vs.map some ++ List.replicate (m - vs.length) none)[i]? = some (some (V.ref a)) → ∃ n c', (slotsOf ars 0)[i]? = some (.rf n c') ∧ ρ[n]? = some a := fun i s c e ec ev => by
      cases s with
      | un => cases ec
      | fz d => cases ec
      | ow d => exact absurd (un i _ e (by intro z; cases z)) slotsOf_ow
      | rf n d =>
        have q := un i _ e (by intro z; cases z)
        obtain ⟨b, n', e1, e2, e3, e4⟩ := slotsOf_rf h q
        have : n = n' := by omega
        subst this
        rw [vv i _ e1] at ev
        cases ev
        exact ⟨n, d, q, e3⟩
    obtain ⟨n, d, q1, q2⟩ := ks i s c e1 c1 l1
    obtain ⟨n', d', q1', q2'⟩ := ks j t c' e2 c2 l2
    have en : n = n' := by
      obtain ⟨h1, x1⟩ := List.getElem?_eq_some_iff.mp q2
      obtain ⟨h2, x2⟩ := List.getElem?_eq_some_iff.mp q2'
      exact (List.getElem_inj nd).mp (x1.trans x2.symm)
    subst en
    have uniq : ∀ (l : List Ar) (k i j n : Nat) (c c' : D), (slotsOf l k)[i]? = some (.rf n c) → (slotsOf l k)[j]? = some (.rf n c') → i = j ∧ k ≤ n := fun l => by
      induction l with
      | nil => intro k i j n c c' h; simp [slotsOf] at h
      | cons x l ih =>
        intro k i j n c c' h1 h2
        cases x with
        | v d =>
          cases i with
          | zero => simp [slotsOf] at h1
          | succ i =>
            cases j with
            | zero => simp [slotsOf] at h2
            | succ j =>
              simp [slotsOf] at h1 h2
              obtain ⟨q, q'⟩ := ih k i j n c c' h1 h2
              exact ⟨by omega, q'⟩
        | r d =>
          have low : ∀ (j : Nat) c', (slotsOf l (k + 1))[j]? = some (.rf n c') → k + 1 ≤ n := fun j c' hj => (ih (k + 1) j j n c' c' hj hj).2
          cases i with
          | zero =>
            simp [slotsOf] at h1
            cases j with
            | zero => exact ⟨rfl, by omega⟩
            | succ j => simp [slotsOf] at h2; have := low j c' h2; omega
          | succ i =>
            simp [slotsOf] at h1
            cases j with
            | zero => simp [slotsOf] at h2; have := low i c h1; omega
            | succ j => simp [slotsOf] at h2; obtain ⟨q, q'⟩ := ih (k + 1) i j n c c' h1 h2; exact ⟨by omega, by omega⟩
    exact (uniq ars 0 i j n d d' q1 q1').1
theorem Cells.free : ∀ {cs : List D} {ρ : List Addr} {a : Addr}, Cells K N Hf H cs ρ → a ∈ ρ → Hf a = none
  | [], ρ, a, h, m => by
    rw [show ρ = [] from h] at m
    cases m
  | c :: cs, ρ, a, h, m => by
    obtain ⟨b, ρ', rfl, hc, h⟩ := h
    rcases List.mem_cons.mp m with e | m
    · subst e; exact hc.free
    · exact Cells.free h m
theorem Cells.notOwn : ∀ {cs : List D} {ρ : List Addr} {a x : Addr}, Cells K N Hf H cs ρ → a ∈ ρ → H a ≠ some (.own x)
  | [], ρ, a, x, h, m => by
    rw [show ρ = [] from h] at m
    cases m
  | c :: cs, ρ, a, x, h, m => by
    obtain ⟨b, ρ', rfl, hc, h⟩ := h
    rcases List.mem_cons.mp m with e | m
    · subst e; exact hc.notOwn
    · exact Cells.notOwn h m
/-- behind the body: the growth since the entry -/
theorem RS.gone {B : Bs} {σ : St} {s : SD} {Hf0 H0 : Hp} (r : RS K B σ s Hf H) (sm : Same Hf0 Hf) (s0 : Same Hf0 H0) (hP : ∀ a, Hf0 a = none → a ∉ B.ρ → B.P a = H0 a) {cs : List D} (hc : Cells K B.N Hf H cs B.ρ) : Gr B.ρ Hf0 H0 Hf H where
  fz := sm
  keep := fun a o e n => by
    cases q : Hf0 a with
    | none => exact r.pa a o (by rw [hP a q n]; exact e)
    | some u =>
      have e2 := s0 a u q
      rw [e] at e2
      cases e2
      exact r.sub a o (sm a o q)
  new := fun a o e n => by
    by_cases ha : a ∈ B.ρ
    · exact hc.free ha
    · exact r.dj a o (by rw [hP a n ha]; exact e)
  there := fun a o e => by
    by_cases ha : a ∈ B.ρ
    · exact r.rh a ha
    · cases q : Hf0 a with
      | none => exact ⟨o, r.pa a o (by rw [hP a q ha]; exact e)⟩
      | some u => exact ⟨u, r.sub a u (sm a u q)⟩
end
section
variable {P : Program} {w : World} {K : PySem.W.Frag} {mg : Str → Option Value} {base : Heap} {x qual : Str} {params : Arguments} {body : List Stmt} {scope : Scope} {dvs : List V} {kws : List (Str × V)} {f : Addr} {fd : FuncData}
/-- the wish of a def's body -/
abbrev WF (E : XK) : WX := fun cls d _ H => E cls d H
/-- THE RULE: a def promises what its body says as a function on data -/
theorem fn_D {N ps : List Str} {k : Nat} {g : G} (F : FunD K x qual params body scope dvs kws f fd) (S : FnScope N ps scope)
    (hb : ∀ (cdv : Value) (A : Around) (outer : List Env) (s : Shared) (H : Hp) (E : XK), Room k (A.deeper (PyProof.Rows.envOfC qual scope s.heap.objs.size f cdv)) → DSs (cxOf (CX P w) P w K mg base N qual scope f cdv A outer s H E) (WF E) body g) :
    FnOk P w K mg base (CX P w) (k + 1) f fd ps (spD K ps.length (runD N.length g)) := by
  refine F.ok S (fun vs H Q E h => h.1) fun cdv A outer s H vs Q E hr ⟨hl, Hf, N', ars, ρ, sm, ha, nd, q⟩ => ⟨_, hb cdv A outer s H E hr, ?_⟩
  obtain ⟨B, e1, e2, e3, r⟩ := RS.start (m := N.length) sm ha nd
  subst e1 e2
  refine ⟨B, _, Hf, r, ?_⟩
  unfold runD at q
  have al := ha.len
  have fin : ∀ {σ' : St} {H' Hf' : Hp} {s : SD} {cs : List D}, Same Hf Hf' → RS K B σ' s Hf' H' → outs s (nrf ars) 0 = some cs → Gr B.ρ Hf H Hf' H' ∧ Same Hf' H' ∧ Cells K B.N Hf' H' cs B.ρ := fun {σ' H' Hf' s cs} t1 t2 t3 => by
    have c := outs_cells t2 (nrf ars) 0 t3 (by rw [al.2]; rfl)
    rw [List.drop_zero] at c
    exact ⟨t2.gone t1 sm e3 c, t2.sub, c⟩
  cases eg : g (slotsOf ars 0 ++ List.replicate (N.length - ars.length) .un) with
  | ok s o =>
    rw [eg] at q
    cases o with
    | nx =>
      dsimp only at q
      cases eo : outs s (nrf ars) 0 with
      | none => rw [eo] at q; exact q.elim
      | some cs =>
        rw [eo] at q
        intro σ' H' Hf' t1 t2
        obtain ⟨g1, g2, g3⟩ := fin t1 t2 eo
        exact q _ _ _ g1 g2 g3 (by simp only [Rep])
    | bk => exact q.elim
    | ct => exact q.elim
    | rt rv =>
      dsimp only at q
      cases eo : outs s (nrf ars) 0 with
      | none => rw [eo] at q; exact q.elim
      | some cs =>
        rw [eo] at q
        cases rv with
        | fz d =>
          intro v σ' H' Hf' t1 t2 t3
          obtain ⟨g1, g2, g3⟩ := fin t1 t2 eo
          exact q v _ _ g1 g2 g3 t3
        | ow c =>
          intro a σ' H' Hf' t1 t2 t3 t4 t5
          obtain ⟨g1, g2, g3⟩ := fin t1 t2 eo
          -- what is new to the def was nowhere at the entry
          have nw : ∀ b, Hf' b = none → B.P b = none → b ∉ B.ρ → H b = none := fun b n1 n2 n3 => by
            cases q0 : Hf b with
            | some u => rw [t1 b u q0] at n1; cases n1
            | none => rw [← e3 b q0 n3]; exact n2
          refine q a _ _ g1 g2 g3 (nw a t3.free t4 t5) ?_
          cases c with
          | lst l => exact t3
          | dct ks l => exact t3
          | obj c ns l =>
            obtain ⟨h0, dx, fs, h1, h4, h5, h6, h3, h2⟩ := t3
            exact ⟨h0, dx, fs, h1, h4, h5, nw dx h5 h6 (fun z => g3.notOwn z h4), h3, h2⟩
          | _ => exact t3.elim
  | exc s e =>
    rw [eg] at q
    dsimp only at q
    cases eo : outs s (nrf ars) 0 with
    | none => rw [eo] at q; exact q.elim
    | some cs =>
      rw [eo] at q
      intro dx σ' H' Hf' t1 t2 t3
      obtain ⟨g1, g2, g3⟩ := fin t1 t2 eo
      exact q dx _ _ g1 g2 g3 t3
  | stk => rw [eg] at q; exact q.elim
end
end DL
/-! DL6: calls of defs that promise by functions on data. -/
namespace DL
open PySem L2

/-- an argument as it is written: data, or the object of a slot, which the callee may change -/
inductive Ak where
  | v (d : D) | s (i : Nat)
def akIx : List Ak → List Nat
  | [] => []
  | .v _ :: l => akIx l
  | .s i :: l => i :: akIx l
def akAr (s : SD) : List Ak → Option (List Ar)
  | [] => some []
  | .v d :: l => match akAr s l with
    | some t => some (.v d :: t)
    | none => none
  | .s i :: l => match (s[i]?).bind Sl.cell, akAr s l with
    | some c, some t => some (.r c :: t)
    | _, _ => none
def unAll (s : SD) : List Nat → SD
  | [] => s
  | i :: is => (unAll s is).set i .un
def kindOf (s : SD) (i : Nat) (c : D) : Sl := match s[i]? with
  | some (.ow _) => .ow c
  | some (.rf k _) => .rf k c
  | _ => .un
def addAll (s : SD) : SD → List Nat → List D → SD
  | acc, i :: is, c :: cs => addAll s (acc.set i (kindOf s i c)) is cs
  | acc, _, _ => acc
/-- the slots behind a call -/
def putAll (s : SD) (is : List Nat) (cs : List D) : SD := addAll s (unAll s is) is cs
def Rt.d : Rt → D
  | .fz d => d
  | .ow c => c
def Rt.ow? : Rt → Option D
  | .ow c => some c
  | _ => none
/-- a call: what comes back -/
def dCallR (np : Nat) (fn : Fn) (args : F (List Ak)) : F Rt := dB args fun l s => if (decide (akIx l).Nodup && decide (l.length = np)) = true then (match akAr s l with
  | none => .stk
  | some ars => match fn ars with
    | .ok cs r => .ok (putAll s (akIx l) cs) r
    | .exc cs e => .exc (putAll s (akIx l) cs) e
    | .stk => .stk) else .stk
/-- .. as data -/
def dCall (np : Nat) (fn : Fn) (args : F (List Ak)) : F D := dB (dCallR np fn args) fun r => dP r.d
/-- .. as an object of our own -/
def dCallF (np : Nat) (fn : Fn) (args : F (List Ak)) : F D := dB (dCallR np fn args) fun r => dO r.ow?

/-- the values of written arguments -/
def RepA (K : PySem.W.Frag) (σ : St) (Hf : Hp) : List Ak → List V → Prop
  | [], vs => vs = []
  | .v d :: l, vs => ∃ v t, vs = v :: t ∧ Rep K Hf d v ∧ RepA K σ Hf l t
  | .s i :: l, vs => ∃ v t, vs = v :: t ∧ σ[i]? = some (some v) ∧ RepA K σ Hf l t
def tAr (K : PySem.W.Frag) (W : WX) (f : F (List Ak)) : TA := fun σ H Q => tG K W (fun Hf l vs => RepA K σ Hf l vs) f σ H Q
abbrev DAr (X : Cx) (W : WX) (es : List Expr) (f : F (List Ak)) : Prop := PA X es (tAr X.K W f)
def aNil : F (List Ak) := dP []
def aCons (f : F D) (g : F (List Ak)) : F (List Ak) := dB f fun x => dB g fun l => dP (.v x :: l)
/-- the object of the slot i is handed over -/
def aSlot (i : Nat) (g : F (List Ak)) : F (List Ak) := fun s => match (s[i]?).bind Sl.cell with
  | some _ => dB g (fun l => dP (.s i :: l)) s
  | none => .stk

section
variable {K : PySem.W.Frag} {B : Bs} {Hf H Hf' H' : Hp} {σ : St} {s s' : SD}
theorem RepA.mono (e : Same Hf Hf') : ∀ {l : List Ak} {vs : List V}, RepA K σ Hf l vs → RepA K σ Hf' l vs
  | [], vs, h => h
  | .v d :: l, vs, h => by
    obtain ⟨v, t, rfl, h1, h2⟩ := h
    exact ⟨v, t, rfl, Rep.mono e h1, RepA.mono e h2⟩
  | .s i :: l, vs, h => by
    obtain ⟨v, t, rfl, h1, h2⟩ := h
    exact ⟨v, t, rfl, h1, RepA.mono e h2⟩
/-- what a callee is told of the own dicts -/
def nOf (B : Bs) : Addr → Addr → Prop := fun a x => (a ∈ B.ρ ∧ B.N a x) ∨ (a ∉ B.ρ ∧ B.P x = none)
theorem RS.cellN (r : RS K B σ s Hf H) {i : Nat} {t : Sl} {c : D} (e : s[i]? = some t) (ec : t.cell = some c) : ∃ a, σ[i]? = some (some (.ref a)) ∧ B.P a = none ∧ Cell K (nOf B a) Hf H c a := by
  cases t with
  | un => cases ec
  | fz d => cases ec
  | ow d =>
    cases ec
    obtain ⟨a, h1, h2, h3, h4⟩ := r.ow i _ e
    exact ⟨a, h1, h2, h4.keep (Same.refl _) (fun _ _ e1 e2 _ => ⟨e1, e2⟩) fun dx z _ => .inr ⟨h3, z⟩⟩
  | rf k d =>
    cases ec
    obtain ⟨a, h1, h2, h4⟩ := r.rf i _ _ e
    have hm := List.mem_of_getElem? h2
    exact ⟨a, h1, r.pr a hm, h4.keep (Same.refl _) (fun _ _ e1 e2 _ => ⟨e1, e2⟩) fun dx z _ => .inl ⟨hm, z⟩⟩
theorem RS.args (r : RS K B σ s Hf H) : ∀ {l : List Ak} {vs : List V} {ars : List Ar}, RepA K σ Hf l vs → akAr s l = some ars → (akIx l).Nodup →
    ∃ ρ, ArgsAt K (nOf B) Hf H ars vs ρ ∧ ρ.Nodup ∧ ρ.length = (akIx l).length ∧ ∀ (n : Nat) a, ρ[n]? = some a → B.P a = none ∧ ∃ i t c, (akIx l)[n]? = some i ∧ σ[i]? = some (some (.ref a)) ∧ s[i]? = some t ∧ t.cell = some c
  | [], vs, ars, h, e, nd => by
    cases e
    refine ⟨[], ⟨h, rfl⟩, List.nodup_nil, rfl, fun n a z => by simp at z⟩
  | .v d :: l, vs, ars, h, e, nd => by
    obtain ⟨v, t, rfl, h1, h2⟩ := h
    unfold akAr at e
    split at e
    · rename_i t' e'
      cases e
      obtain ⟨ρ, q1, q2, q3⟩ := RS.args r h2 e' nd
      exact ⟨ρ, ⟨v, t, rfl, h1, q1⟩, q2, q3⟩
    · cases e
  | .s i :: l, vs, ars, h, e, nd => by
    obtain ⟨v, t, rfl, h1, h2⟩ := h
    unfold akAr at e
    split at e
    · rename_i c t' ei e'
      cases e
      have nd' := List.nodup_cons.mp nd
      obtain ⟨ρ, q1, q2, q3, q4⟩ := RS.args r h2 e' nd'.2
      cases es : s[i]? with
      | none => rw [es] at ei; cases ei
      | some x =>
        rw [es] at ei
        obtain ⟨a, a1, a2, a3⟩ := r.cellN es ei
        rw [h1] at a1
        cases a1
        refine ⟨a :: ρ, ⟨a, t, ρ, rfl, rfl, a3, q1⟩, List.nodup_cons.mpr ⟨fun hm => ?_, q2⟩, by show ρ.length + 1 = (akIx l).length + 1; rw [q3], fun n b hb => ?_⟩
        · obtain ⟨n, hn⟩ := List.getElem?_of_mem hm
          obtain ⟨_, j, t2, c2, j1, j2, j3, j4⟩ := q4 n a hn
          have := r.inj i j x t2 c c2 a es ei j3 j4 h1 j2
          subst this
          exact nd'.1 (List.mem_of_getElem? j1)
        · cases n with
          | zero => simp at hb; subst hb; exact ⟨a2, i, x, c, rfl, h1, es, ei⟩
          | succ n =>
            obtain ⟨z1, j, t2, c2, j1, j2⟩ := q4 n b (by simpa using hb)
            exact ⟨z1, j, t2, c2, by simpa [akIx] using j1, j2⟩
    · cases e
theorem unAll_get {j : Nat} {t : Sl} : ∀ {is : List Nat}, (unAll s is)[j]? = some t → t = .un ∨ (j ∉ is ∧ s[j]? = some t)
  | [], h => .inr ⟨by simp, h⟩
  | i :: is, h => by
    unfold unAll at h
    by_cases z : j = i
    · subst z; exact .inl (set_self h).symm
    · rw [List.getElem?_set_ne (Ne.symm z)] at h
      rcases unAll_get h with q | ⟨q1, q2⟩
      · exact .inl q
      · exact .inr ⟨fun m => (List.mem_cons.mp m).elim z q1, q2⟩
theorem unAll_len : ∀ {is : List Nat}, (unAll s is).length = s.length
  | [] => rfl
  | i :: is => by unfold unAll; rw [List.length_set, unAll_len]
/-- behind a call: what was handed over is forgotten -/
theorem RS.havoc (r : RS K B σ s Hf H) {ρ : List Addr} {is : List Nat} (g : Gr ρ Hf H Hf' H') (sm : Same Hf' H') (hρ : ∀ a ∈ ρ, B.P a = none ∧ ∃ i ∈ is, ∃ t c, σ[i]? = some (some (.ref a)) ∧ s[i]? = some t ∧ t.cell = some c) : RS K B σ (unAll s is) Hf' H' := by
  have nown : ∀ a ∈ ρ, ∀ x, H a ≠ some (.own x) := fun a ha x z => by
    obtain ⟨_, i, hi, t, c, e1, e2, e3⟩ := hρ a ha
    obtain ⟨b, b1, _, b3⟩ := r.cellAt e2 e3
    rw [e1] at b1
    cases b1
    exact b3.notOwn z
  have cl : ∀ {N : Addr → Prop} {j : Nat} {t : Sl} {c : D} {a : Addr}, s[j]? = some t → t.cell = some c → j ∉ is → σ[j]? = some (some (.ref a)) → Cell K N Hf H c a → Cell K N Hf' H' c a := fun {N j t c a} e1 e2 nj ev hc =>
    hc.keep g.fz fun b o e3 e4 e5 => by
      have nb : b ∉ ρ := fun hb => by
        rcases e5 with e5 | e5
        · subst e5
          obtain ⟨_, i, hi, t', c', q1, q2, q3⟩ := hρ b hb
          have := r.inj i j t' t c' c b q2 q3 e1 e2 q1 ev
          subst this
          exact nj hi
        · subst e5; exact nown b hb a e3
      exact ⟨g.keep b o e3 nb, g.new b o e3 e4⟩
  refine ⟨sm, fun a o e => g.keep a o (r.pa a o e) fun ha => ?_, fun a o e => g.new a o (r.pa a o e) (r.dj a o e), r.pr, fun a ha => ?_, by rw [unAll_len]; exact r.len, fun i d e => ?_, fun i c e => ?_, fun i k c e => ?_, fun i j t u c c' a e1 c1 e2 c2 l1 l2 => ?_⟩
  · rw [(hρ a ha).1] at e; cases e
  · obtain ⟨o, e⟩ := r.rh a ha
    exact g.there a o e
  · rcases unAll_get e with q | ⟨q1, q2⟩
    · cases q
    · obtain ⟨v, h1, h2⟩ := r.sl i d q2
      exact ⟨v, h1, Rep.mono g.fz h2⟩
  · rcases unAll_get e with q | ⟨q1, q2⟩
    · cases q
    · obtain ⟨a, h1, h2, h3, h4⟩ := r.ow i c q2
      exact ⟨a, h1, h2, h3, cl q2 rfl q1 h1 h4⟩
  · rcases unAll_get e with q | ⟨q1, q2⟩
    · cases q
    · obtain ⟨a, h1, h3, h4⟩ := r.rf i k c q2
      exact ⟨a, h1, h3, cl q2 rfl q1 h1 h4⟩
  · rcases unAll_get e1 with q | ⟨q1, q2⟩
    · subst q; cases c1
    · rcases unAll_get e2 with q' | ⟨q1', q2'⟩
      · subst q'; cases c2
      · exact r.inj i j t u c c' a q2 c1 q2' c2 l1 l2
/-- a slot's object is told again -/
theorem RS.again (r : RS K B σ s' Hf H) {i : Nat} {t : Sl} {c c0 : D} {a : Addr} {s0 : SD} {Hf0 H0 : Hp} (r0 : RS K B σ s0 Hf0 H0) (e0 : s0[i]? = some t) (ec : t.cell = some c0) (ev : σ[i]? = some (some (.ref a))) (hc : Cell K (nOf B a) Hf H c a)
    (ne : ∀ (j : Nat) u d, s'[j]? = some u → u.cell = some d → j ≠ i → σ[j]? ≠ some (some (.ref a))) : RS K B σ (s'.set i (kindOf s0 i c)) Hf H := by
  have q := r.set_un i (some (.ref a))
  have es : σ.set i (some (.ref a)) = σ := by
    have z := set_back ev
    rwa [List.set_set] at z
  rw [es] at q
  have nw : ∀ (j : Nat) (x y : Sl), (s'.set i x)[j]? = some y → j ≠ i → (s'.set i .un)[j]? = some y ∧ s'[j]? = some y := fun j x y e n => by
    rw [List.getElem?_set_ne (Ne.symm n)] at e ⊢; exact ⟨e, e⟩
  have main : ∀ x : Sl, (x.cell = some c ∨ x = .un) → (∀ d, x = .ow d → d = c ∧ B.P a = none ∧ a ∉ B.ρ) → (∀ k d, x = .rf k d → d = c ∧ B.ρ[k]? = some a) → (∀ d, x ≠ .fz d) → RS K B σ (s'.set i x) Hf H := fun x hx h1 h2 h3 => by
    refine ⟨r.sub, r.pa, r.dj, r.pr, r.rh, by rw [List.length_set]; exact r.len, fun j d e => ?_, fun j d e => ?_, fun j k d e => ?_, fun j k u v d d' b e1 c1 e2 c2 l1 l2 => ?_⟩
    · by_cases n : j = i
      · subst n; exact absurd (set_self e) (h3 d)
      · exact r.sl j d (nw j _ _ e n).2
    · by_cases n : j = i
      · subst n
        obtain ⟨rfl, p1, p2⟩ := h1 d (set_self e)
        exact ⟨a, ev, p1, p2, hc.keep (Same.refl _) (fun _ _ e1 e2 _ => ⟨e1, e2⟩) fun dx z _ => z.elim (fun z => absurd z.1 p2) (fun z => z.2)⟩
      · exact r.ow j d (nw j _ _ e n).2
    · by_cases n : j = i
      · subst n
        obtain ⟨rfl, p1⟩ := h2 k d (set_self e)
        exact ⟨a, ev, p1, hc.keep (Same.refl _) (fun _ _ e1 e2 _ => ⟨e1, e2⟩) fun dx z _ => z.elim (fun z => z.2) (fun z => absurd (List.mem_of_getElem? p1) z.1)⟩
      · exact r.rf j k d (nw j _ _ e n).2
    · by_cases n : j = i
      · by_cases n' : k = i
        · rw [n, n']
        · subst n
          rw [ev] at l1
          cases l1
          exact absurd l2 (ne k v d' (nw k _ _ e2 n').2 c2 n')
      · by_cases n' : k = i
        · subst n'
          rw [ev] at l2
          cases l2
          exact absurd l1 (ne j u d (nw j _ _ e1 n).2 c1 n)
        · exact r.inj j k u v d d' b (nw j _ _ e1 n).2 c1 (nw k _ _ e2 n').2 c2 l1 l2
  unfold kindOf
  rw [e0]
  cases t with
  | un => cases ec
  | fz d => cases ec
  | ow d =>
    obtain ⟨b, b1, b2, b3, _⟩ := r0.ow i d e0
    rw [ev] at b1
    cases b1
    exact main _ (.inl rfl) (fun d z => by cases z; exact ⟨rfl, b2, b3⟩) (fun k d z => by cases z) fun d z => by cases z
  | rf k d =>
    obtain ⟨b, b1, b2, _⟩ := r0.rf i k d e0
    rw [ev] at b1
    cases b1
    exact main _ (.inl rfl) (fun d z => by cases z) (fun k d z => by cases z; exact ⟨rfl, b2⟩) fun d z => by cases z
theorem kindOf_cell {i : Nat} {c : D} {t : Sl} {c0 : D} (e : s[i]? = some t) (ec : t.cell = some c0) : (kindOf s i c).cell = some c := by
  unfold kindOf
  rw [e]
  cases t <;> first | rfl | cases ec
theorem RS.addAll {Hf0 H0 : Hp} (r0 : RS K B σ s Hf0 H0) : ∀ {is : List Nat} {cs : List D} {ρ : List Addr} {acc : SD}, RS K B σ acc Hf H → Cells K (nOf B) Hf H cs ρ → is.Nodup → ρ.length = is.length →
    (∀ (n : Nat) a, ρ[n]? = some a → ∃ i t c, is[n]? = some i ∧ σ[i]? = some (some (.ref a)) ∧ s[i]? = some t ∧ t.cell = some c) →
    (∀ (j : Nat) u d, acc[j]? = some u → u.cell = some d → ∃ u0 d0, s[j]? = some u0 ∧ u0.cell = some d0) → RS K B σ (addAll s acc is cs) Hf H
  | [], [], ρ, acc, r, h, nd, hl, h1, h2 => r
  | [], c :: cs, ρ, acc, r, h, nd, hl, h1, h2 => r
  | i :: is, [], ρ, acc, r, h, nd, hl, h1, h2 => r
  | i :: is, c :: cs, ρ, acc, r, h, nd, hl, h1, h2 => by
    obtain ⟨a, ρ', rfl, hc, hr⟩ := h
    obtain ⟨i', t, c0, e1, e2, e3, e4⟩ := h1 0 a rfl
    cases e1
    have r2 := r.again r0 e3 e4 e2 hc fun j u d q1 q2 n z => by
      obtain ⟨u0, d0, z1, z2⟩ := h2 j u d q1 q2
      exact n (r0.inj j i u0 t d0 c0 a z1 z2 e3 e4 z e2)
    refine RS.addAll r0 (acc := acc.set i (kindOf s i c)) r2 hr (List.nodup_cons.mp nd).2 (by simpa using hl) (fun n b hb => ?_) fun j u d q1 q2 => ?_
    · obtain ⟨i2, t2, c2, q⟩ := h1 (n + 1) b (by simpa using hb)
      exact ⟨i2, t2, c2, by simpa using q.1, q.2⟩
    · by_cases n : j = i
      · subst n; exact ⟨t, c0, e3, e4⟩
      · rw [List.getElem?_set_ne (Ne.symm n)] at q1
        exact h2 j u d q1 q2
/-- BEHIND A CALL -/
theorem RS.called (r : RS K B σ s Hf H) {ρ : List Addr} {is : List Nat} {cs : List D} (nd : is.Nodup) (hl : ρ.length = is.length)
    (hρ : ∀ (n : Nat) a, ρ[n]? = some a → B.P a = none ∧ ∃ i t c, is[n]? = some i ∧ σ[i]? = some (some (.ref a)) ∧ s[i]? = some t ∧ t.cell = some c)
    (g : Gr ρ Hf H Hf' H') (sm : Same Hf' H') (hc : Cells K (nOf B) Hf' H' cs ρ) : RS K B σ (putAll s is cs) Hf' H' := by
  have h0 : RS K B σ (unAll s is) Hf' H' := r.havoc g sm fun a ha => by
    obtain ⟨n, hn⟩ := List.getElem?_of_mem ha
    obtain ⟨p, i, t, c, e1, e2⟩ := hρ n a hn
    exact ⟨p, i, List.mem_of_getElem? e1, t, c, e2⟩
  refine RS.addAll r h0 hc nd hl (fun n a e => (hρ n a e).2) fun j u d e1 e2 => ?_
  rcases unAll_get e1 with q | ⟨q1, q2⟩
  · subst q; cases e2
  · exact ⟨u, d, q2, e2⟩
end

/-! ### what a call hands back -/
def PRt (K : PySem.W.Frag) (B : Bs) (σ : St) (W : WX) (Hf : Hp) (r : R SD Rt) (Q : VK) : Prop := match r with
  | .ok s (.fz d) => ∀ v H' Hf', Same Hf Hf' → RS K B σ s Hf' H' → Rep K Hf' d v → Q v H'
  | .ok s (.ow c) => ∀ a H' Hf', Same Hf Hf' → RS K B σ s Hf' H' → Fresh K B σ s Hf' H' c a → Q (.ref a) H'
  | .exc s e => ∀ dx H' Hf', Same Hf Hf' → RS K B σ s Hf' H' → ExcAt K Hf' H' e dx → W (.ref (He.ga K e.c)) (some dx) σ H'
  | .stk => False
def tR (K : PySem.W.Frag) (W : WX) (f : F Rt) : TE := fun σ H Q => ∃ B σd Hf, RS K B σ σd Hf H ∧ PRt K B σ W Hf (f σd) Q
abbrev DR (X : Cx) (W : WX) (e : Expr) (f : F Rt) : Prop := PE X e (tR X.K W f)
section
variable {K : PySem.W.Frag} {B : Bs} {Hf Hf1 H : Hp} {σ : St} {s : SD} {W : WX} {Q : VK}
theorem PRt.mono {r : R SD Rt} (h : PRt K B σ W Hf r Q) (e : Same Hf Hf1) : PRt K B σ W Hf1 r Q := by
  cases r with
  | ok s a => cases a <;> exact fun v H' Hf' s1 => h v H' Hf' (e.trans s1)
  | exc s x => exact fun dx H' Hf' s1 => h dx H' Hf' (e.trans s1)
  | stk => exact h
theorem PRt.of_PO {f : F Rt} (p : PO K B σ W (rD K) Hf (dB f (fun r => dP r.d) s) Q) : PRt K B σ W Hf (f s) Q := by
  unfold dB at p
  cases e : f s with
  | ok s' r =>
    rw [e] at p
    cases r with
    | fz d => exact p
    | ow c => exact PFr.of_PO (r := .ok s' c) p
  | exc s' x => rw [e] at p; exact p
  | stk => rw [e] at p; exact p
theorem PRt.of_PFr {f : F Rt} (p : PFr K B σ W Hf (dB f (fun r => dO r.ow?) s) Q) : PRt K B σ W Hf (f s) Q := by
  unfold dB at p
  cases e : f s with
  | ok s' r =>
    rw [e] at p
    cases r with
    | fz d => exact p.elim
    | ow c => exact p
  | exc s' x => rw [e] at p; exact p
  | stk => rw [e] at p; exact p
theorem rt_seq {α β : Type} {rep : Hp → α → β → Prop} {f : F α} {g : α → F Rt} (r : RS K B σ s Hf H) (h : PRt K B σ W Hf (dB f g s) Q) :
    tG K W rep f σ H (fun x H1 => ∃ Hf1 s1 a, Same Hf Hf1 ∧ RS K B σ s1 Hf1 H1 ∧ rep Hf1 a x ∧ PRt K B σ W Hf1 (g a s1) Q) := by
  refine ⟨B, s, Hf, r, ?_⟩
  unfold dB at h
  cases e : f s with
  | ok s' a =>
    rw [e] at h
    exact fun v H' Hf' s1 r1 q => ⟨Hf', s', a, s1, r1, q, PRt.mono h s1⟩
  | exc s' x => rw [e] at h; exact h
  | stk => rw [e] at h; exact h
theorem RepA.len : ∀ {l : List Ak} {vs : List V}, RepA K σ Hf l vs → vs.length = l.length
  | [], vs, h => by rw [show vs = [] from h]; rfl
  | .v d :: l, vs, h => by obtain ⟨v, t, rfl, h1, h2⟩ := h; rw [List.length_cons, List.length_cons, RepA.len h2]
  | .s i :: l, vs, h => by obtain ⟨v, t, rfl, h1, h2⟩ := h; rw [List.length_cons, List.length_cons, RepA.len h2]
/-- THE CALL: from what is wanted of the data to the callee's promise -/
theorem call_core {np : Nat} {fn : Fn} {l : List Ak} {vs : List V} (r : RS K B σ s Hf H) (hl : RepA K σ Hf l vs)
    (p : PRt K B σ W Hf (if (decide (akIx l).Nodup && decide (l.length = np)) = true then (match akAr s l with
      | none => .stk
      | some ars => match fn ars with
        | .ok cs r => .ok (putAll s (akIx l) cs) r
        | .exc cs e => .exc (putAll s (akIx l) cs) e
        | .stk => .stk) else .stk) Q) : spD K np fn vs H Q (WE W σ) := by
  split at p
  · rename_i hc
    rw [Bool.and_eq_true] at hc
    have nd := of_decide_eq_true hc.1
    refine ⟨by rw [hl.len]; exact of_decide_eq_true hc.2, ?_⟩
    cases ea : akAr s l with
    | none => rw [ea] at p; exact p.elim
    | some ars =>
      rw [ea] at p
      obtain ⟨ρ, q1, q2, q3, q4⟩ := r.args hl ea nd
      refine ⟨Hf, nOf B, ars, ρ, r.sub, q1, q2, ?_⟩
      dsimp only at p
      cases ef : fn ars with
      | ok cs rv =>
        rw [ef] at p
        cases rv with
        | fz d => exact fun v H' Hf' g sm hc hd => p v H' Hf' g.fz (r.called nd q3 q4 g sm hc) hd
        | ow c =>
          intro a H' Hf' g sm hc hn hcell
          have r2 := r.called nd q3 q4 g sm hc
          refine p a H' Hf' g.fz r2 ⟨r.freshP hn, r.out hn, hcell.keep (Same.refl _) (fun _ _ e1 e2 _ => ⟨e1, e2⟩) fun dx z _ => r.freshP z, fun i t c' e ec z => ?_⟩
          -- a slot's object stood ahead of the call
          have old : ∃ t0 c0, s[i]? = some t0 ∧ t0.cell = some c0 := by
            have gen : ∀ (is : List Nat) (cs : List D) (acc : SD), (∀ (j : Nat) u d, acc[j]? = some u → u.cell = some d → ∃ u0 d0, s[j]? = some u0 ∧ u0.cell = some d0) → ∀ (j : Nat) u d, (addAll s acc is cs)[j]? = some u → u.cell = some d → ∃ u0 d0, s[j]? = some u0 ∧ u0.cell = some d0 := fun is => by
              induction is with
              | nil => intro cs acc h; cases cs <;> exact h
              | cons k is ih =>
                intro cs acc h
                cases cs with
                | nil => exact h
                | cons c cs =>
                  refine ih cs _ fun j u d e1 e2 => ?_
                  by_cases n : j = k
                  · subst n
                    have z := set_self e1
                    subst z
                    unfold kindOf at e2
                    cases es : s[j]? with
                    | none => rw [es] at e2; cases e2
                    | some x => cases x <;> first | exact ⟨_, _, es, rfl⟩ | exact ⟨_, _, rfl, rfl⟩ | (rw [es] at e2; cases e2)
                  · rw [List.getElem?_set_ne (Ne.symm n)] at e1
                    exact h j u d e1 e2
            refine gen (akIx l) cs (unAll s (akIx l)) (fun j u d e1 e2 => ?_) i t c' e ec
            rcases unAll_get e1 with q | ⟨_, q⟩
            · subst q; cases e2
            · exact ⟨u, d, q, e2⟩
          obtain ⟨t0, c0, e0, ec0⟩ := old
          obtain ⟨b, b1, _, b3⟩ := r.cellAt e0 ec0
          rw [z] at b1
          cases b1
          obtain ⟨o, q⟩ := b3.there
          rw [hn] at q
          cases q
      | exc cs e =>
        rw [ef] at p
        exact fun dx H' Hf' g sm hc hx => p dx H' Hf' g.fz (r.called nd q3 q4 g sm hc) hx
      | stk => rw [ef] at p; exact p.elim
  · exact p.elim
end
section
variable {X : Cx} {W : WX}
theorem de_r {e : Expr} {f : F Rt} (h : DR X W e f) : DE X W e (dB f fun r => dP r.d) := h.imp fun σ H Q ⟨B, σd, Hf, r, p⟩ => ⟨B, σd, Hf, r, PRt.of_PO p⟩
theorem df_r {e : Expr} {f : F Rt} (h : DR X W e f) : DF X W e (dB f fun r => dO r.ow?) := h.imp fun σ H Q ⟨B, σd, Hf, r, p⟩ => ⟨B, σd, Hf, r, PRt.of_PFr p⟩
theorem dar_nil : DAr X W [] aNil := pa_nil.imp fun σ H Q ⟨B, σd, Hf, r, p⟩ => p.done r rfl
theorem dar_cons {e : Expr} {es : List Expr} {f : F D} {g : F (List Ak)} (h : DE X W e f) (h2 : DAr X W es g) (hs : starEach (e :: es) X.env = (false, eval e X.env) :: starEach es X.env := by rfl) : DAr X W (e :: es) (aCons f g) :=
  (pa_cons h h2 hs).imp fun σ H Q ⟨B, σd, Hf, r, p⟩ => (tG_seq r p).imp fun x H1 ⟨Hf1, s1, d, e1, r1, hx, p1⟩ =>
    (tG_seq r1 p1).imp fun y H2 ⟨Hf2, s2, l, e2, r2, hy, p2⟩ => p2.done r2 ⟨x, y, rfl, Rep.mono e2 hx, hy⟩
theorem dar_slot {e : Expr} {es : List Expr} {i : Nat} {g : F (List Ak)} (h : PE X e (tVar i)) (h2 : DAr X W es g) (hs : starEach (e :: es) X.env = (false, eval e X.env) :: starEach es X.env := by rfl) : DAr X W (e :: es) (aSlot i g) :=
  (pa_cons h h2 hs).imp fun σ H Q ⟨B, σd, Hf, r, p⟩ => by
    unfold aSlot at p
    split at p
    · rename_i c ec
      cases es : σd[i]? with
      | none => rw [es] at ec; cases ec
      | some t =>
        rw [es] at ec
        obtain ⟨a, a1, _⟩ := r.cellAt es ec
        exact ⟨_, a1, (tG_seq r p).imp fun y H2 ⟨Hf2, s2, l, e2, r2, hy, p2⟩ => p2.done r2 ⟨_, y, rfl, a1, hy⟩⟩
    · exact p.elim
variable {k : Nat} {f : Addr} {fd : FuncData} {ps : List Str} {np : Nat} {fn : Fn} {x : Str} {p pos : Pos} {e : Expr} {es : List Expr} {g : F (List Ak)}
/-- f(e, ..) -/
theorem dr_call (Fk : FnOk X.prog X.w X.K X.mg X.base (L2.CX X.prog X.w) k f fd ps (spD X.K np fn)) (hr : Room k X.A) (hg : Gl X x) (hm : X.mg x = some (.ref f)) (hk : PySem.W.keepIn X.K (.ref f) = true) (hb : Binds X.K fd ps []) (tk : Takes X W)
    (ha : DAr X W (e :: es) g) (hdb : (x == ("__debug__" : Str)) = false := by decide) (he : starEach (e :: es) X.env = (false, eval e X.env) :: starEach es X.env := by rfl) (hpl : (backTo pos (starEach es X.env)).any (·.1) = false := by rfl) :
    DR X W (.Call (.Name x p) (e :: es) [] pos) (dCallR np fn g) :=
  (pe_callS Fk hr hg hm hk hb (fun σ => passAt tk σ) ha hdb he hpl).imp fun σ H Q ⟨B, σd, Hf, r, q⟩ =>
    (rt_seq r q).imp fun vs H1 ⟨Hf1, s1, l, e1, r1, hl, p1⟩ => call_core r1 hl p1
end
end DL
/-! DL7: operations on data, subscripts, slices, built-ins. -/
namespace DL
open PySem L2

/-! ### data as the library's plain data -/
mutual
def D.py : D → Option PyData
  | .non => some .none
  | .bl b => some (.bool b)
  | .int i => some (.int i)
  | .str s => some (.str s)
  | .tup l => match pyL l with
    | some m => some (.tuple m)
    | none => none
  | .lst l => match pyL l with
    | some m => some (.list m)
    | none => none
  | _ => none
def pyL : List D → Option (List PyData)
  | [] => some []
  | d :: l => match d.py, pyL l with
    | some p, some m => some (p :: m)
    | _, _ => none
end
mutual
theorem Rep.dp {K : PySem.W.Frag} {Hf H : Hp} (sm : Same Hf H) : ∀ {d : D} {v : V} {p : PyData}, Rep K Hf d v → d.py = some p → Dp K H v p
  | .non, v, p, h, e => by simp only [Rep] at h; simp only [D.py] at e; subst h; cases e; exact .non
  | .bl b, v, p, h, e => by simp only [Rep] at h; simp only [D.py] at e; subst h; cases e; exact .bl b
  | .int i, v, p, h, e => by simp only [Rep] at h; simp only [D.py] at e; subst h; cases e; exact .int i
  | .str s, v, p, h, e => by simp only [Rep] at h; simp only [D.py] at e; subst h; cases e; exact .str s
  | .tup l, v, p, h, e => by
    simp only [Rep] at h
    obtain ⟨a, xs, rfl, h1, h2⟩ := h
    simp only [D.py] at e
    cases q : pyL l with
    | none => rw [q] at e; cases e
    | some m => rw [q] at e; cases e; exact .tup (Same.seqT sm h1) (Reps.dps sm h2 q)
  | .lst l, v, p, h, e => by
    simp only [Rep] at h
    obtain ⟨a, xs, rfl, h1, h2⟩ := h
    simp only [D.py] at e
    cases q : pyL l with
    | none => rw [q] at e; cases e
    | some m => rw [q] at e; cases e; exact .lst (SqL.of (sm _ _ h1)) (Reps.dps sm h2 q)
  | .dct ks l, v, p, h, e => by simp only [D.py] at e; cases e
  | .obj c ns l, v, p, h, e => by simp only [D.py] at e; cases e
  | .glo x, v, p, h, e => by simp only [D.py] at e; cases e
  | .exc c ns l, v, p, h, e => by simp only [D.py] at e; cases e
  | .ty n, v, p, h, e => by simp only [D.py] at e; cases e
  | .frl l, v, p, h, e => by simp only [D.py] at e; cases e
theorem Reps.dps {K : PySem.W.Frag} {Hf H : Hp} (sm : Same Hf H) : ∀ {l : List D} {xs : List V} {m : List PyData}, Reps K Hf l xs → pyL l = some m → DpAll K H xs m
  | [], xs, m, h, e => by
    simp only [Reps] at h
    subst h
    simp only [pyL] at e
    cases e
    exact .nil
  | d :: l, xs, m, h, e => by
    simp only [Reps] at h
    obtain ⟨v, r, rfl, h1, h2⟩ := h
    simp only [pyL] at e
    cases q : d.py with
    | none => rw [q] at e; cases e
    | some p =>
      cases q2 : pyL l with
      | none => rw [q, q2] at e; cases e
      | some t => rw [q, q2] at e; cases e; exact .cons (Rep.dp sm h1 q) (Reps.dps sm h2 q2)
end
def dEq (x y : D) : Option D := match x.py, y.py with
  | some a, some b => if (SeqAt.shaped a && SeqAt.shaped b) = true then some (.bl (PyData.eqv a b)) else none
  | _, _ => none
def dNe (x y : D) : Option D := match x.py, y.py with
  | some a, some b => if (SeqAt.shaped a && SeqAt.shaped b) = true then some (.bl (!PyData.eqv a b)) else none
  | _, _ => none
/-- x in y: a text in a text, data in a list -/
def inB (x y : D) : Option Bool := match x, y with
  | .str a, .str b => some (!(Builtin.Str.occurrences b a 0 b.length 1).isEmpty)
  | d, .lst l => (match d.py, pyL l with
    | some a, some m => if (SeqAt.shaped a && SeqAt.shaped (.list m)) = true then some (m.any fun z => PyData.eqv z a) else none
    | _, _ => none)
  | .str a, .dct ks l => some (ks.any fun k => match k with | .inr b => decide (b = a) | .inl _ => false)
  | _, _ => none
def dIn (x y : D) : Option D := (inB x y).map D.bl
def dNotIn (x y : D) : Option D := (inB x y).map fun b => D.bl (!b)
def D.isNon : D → Bool
  | .non => true
  | _ => false
def dIs (x y : D) : Option D := match y with
  | .non => some (.bl x.isNon)
  | _ => none
def dIsNot (x y : D) : Option D := match y with
  | .non => some (.bl (!x.isNon))
  | _ => none
def dAdd (x y : D) : Option D := match x, y with
  | .int i, .int j => some (.int (i + j))
  | .str a, .str b => if okLen (a.length + b.length) = true then some (.str (a ++ b)) else none
  | .lst l, .lst m => if okLen (l.length + m.length) = true then some (.lst (l ++ m)) else none
  | _, _ => none
def dSub (x y : D) : Option D := match x, y with
  | .int i, .int j => some (.int (i - j))
  | _, _ => none
def mulOk (i j : Int) : Bool := decide (i.natAbs.log2 + j.natAbs.log2 < 1000000)
def dMul (x y : D) : Option D := match x, y with
  | .int i, .int j => if mulOk i j = true then some (.int (i * j)) else none
  | .lst l, .int k => if (decide (-(2 ^ 63) ≤ k) && decide (k < 2 ^ 63) && okLen (l.length * k.toNat)) = true then some (.lst (List.replicate k.toNat l).flatten) else none
  | _, _ => none
def dMod (x y : D) : Option D := match x, y with
  | .int i, .int j => if decide (0 < j) = true then some (.int (i % j)) else none
  | _, _ => none
def dFdiv (x y : D) : Option D := match x, y with
  | .int i, .int j => if (decide (0 < j) && decide (j < 1073741824)) = true then some (.int (i / j)) else none
  | _, _ => none
def dPow (x y : D) : Option D := match x, y with
  | .int i, .int j => if (decide (0 ≤ j) && decide (j ≤ 1000000) && decide (i.natAbs < 2 ^ 64)) = true then some (.int (i ^ j.toNat)) else none
  | _, _ => none
def dLt (x y : D) : Option D := match x, y with
  | .int i, .int j => some (.bl (decide (i < j)))
  | _, _ => none
def dLe (x y : D) : Option D := match x, y with
  | .int i, .int j => some (.bl (decide (i ≤ j)))
  | _, _ => none
def dGt (x y : D) : Option D := match x, y with
  | .int i, .int j => some (.bl (decide (j < i)))
  | _, _ => none
def dGe (x y : D) : Option D := match x, y with
  | .int i, .int j => some (.bl (decide (j ≤ i)))
  | _, _ => none

section
variable {X : Cx}
theorem od_eq (hu : X.A.units + 64 < cLine) : OpD X (compareOp .Eq) dEq := by
  intro pins s τ H x y v u Q Hf dx dy d I rx ry sm hx hy e k
  unfold dEq at e
  split at e
  · rename_i a b ea eb
    split at e
    · rename_i hs
      rw [Bool.and_eq_true] at hs
      cases e
      exact op_eqD hu pins s τ H x y v u Q I rx ry ⟨a, b, Rep.dp sm hx ea, Rep.dp sm hy eb, hs.1, hs.2, k _ _ Hf Gr.refl sm rep_mk_bl⟩
    · cases e
  · cases e
theorem od_ne (hu : X.A.units + 64 < cLine) : OpD X (compareOp .NotEq) dNe := by
  intro pins s τ H x y v u Q Hf dx dy d I rx ry sm hx hy e k
  unfold dNe at e
  split at e
  · rename_i a b ea eb
    split at e
    · rename_i hs
      rw [Bool.and_eq_true] at hs
      cases e
      exact op_neD hu pins s τ H x y v u Q I rx ry ⟨a, b, Rep.dp sm hx ea, Rep.dp sm hy eb, hs.1, hs.2, k _ _ Hf Gr.refl sm rep_mk_bl⟩
    · cases e
  · cases e
theorem rep_isNon {K : PySem.W.Frag} {Hf : Hp} {d : D} {v : V} (h : Rep K Hf d v) : decide (v = .non) = d.isNon := by
  cases d <;> simp only [Rep] at h
  · subst h; rfl
  · subst h; rfl
  · subst h; rfl
  · subst h; rfl
  · obtain ⟨a, xs, rfl, _⟩ := h; rfl
  · obtain ⟨a, xs, rfl, _⟩ := h; rfl
  · obtain ⟨a, xs, rfl, _⟩ := h; rfl
  · obtain ⟨a, dx, xs, rfl, _⟩ := h; rfl
  · subst h; rfl
  · obtain ⟨a, dx, xs, rfl, _⟩ := h; rfl
  · subst h; rfl
  · obtain ⟨a, xs, rfl, _⟩ := h; rfl
theorem od_is : OpD X (compareOp .Is) dIs := by
  intro pins s τ H x y v u Q Hf dx dy d I rx ry sm hx hy e k
  unfold dIs at e
  split at e
  · cases e
    refine op_isN pins s τ H x y v u Q I rx ry ⟨by simpa only [Rep] using hy, ?_⟩
    rw [rep_isNon hx]
    exact k _ _ Hf Gr.refl sm rep_mk_bl
  · cases e
theorem od_isNot : OpD X (compareOp .IsNot) dIsNot := by
  intro pins s τ H x y v u Q Hf dx dy d I rx ry sm hx hy e k
  unfold dIsNot at e
  split at e
  · cases e
    refine op_notN pins s τ H x y v u Q I rx ry ⟨by simpa only [Rep] using hy, ?_⟩
    rw [rep_isNon hx]
    exact k _ _ Hf Gr.refl sm rep_mk_bl
  · cases e
/-- two ints -/
theorem od_int {f : Value → Value → Sem Value} {C : Int → Int → Prop} {g : Int → Int → V} {h : D → D → Option D} {g' : Int → Int → D} (o : OpR X f (rI C g))
    (hh : ∀ dx dy d, h dx dy = some d → ∃ i j, dx = .int i ∧ dy = .int j ∧ C i j ∧ d = g' i j) (hg : ∀ i j K Hf, Rep K Hf (g' i j) (g i j)) : OpD X f h := by
  intro pins s τ H x y v u Q Hf dx dy d I rx ry sm hx hy e k
  obtain ⟨i, j, rfl, rfl, c, rfl⟩ := hh _ _ _ e
  exact o pins s τ H x y v u Q I rx ry ⟨i, j, rep_int hx, rep_int hy, c, k _ _ Hf Gr.refl sm (hg i j _ _)⟩
theorem od_int0 {f : Value → Value → Sem Value} {g : Int → Int → V} {h : D → D → Option D} {g' : Int → Int → D} (o : OpR X f (rI0 g))
    (hh : ∀ dx dy d, h dx dy = some d → ∃ i j, dx = .int i ∧ dy = .int j ∧ d = g' i j) (hg : ∀ i j K Hf, Rep K Hf (g' i j) (g i j)) : OpD X f h := by
  intro pins s τ H x y v u Q Hf dx dy d I rx ry sm hx hy e k
  obtain ⟨i, j, rfl, rfl, rfl⟩ := hh _ _ _ e
  exact o pins s τ H x y v u Q I rx ry ⟨i, j, rep_int hx, rep_int hy, k _ _ Hf Gr.refl sm (hg i j _ _)⟩
theorem od_sub : OpD X (binaryOp .Sub) dSub := od_int0 (g' := fun i j => .int (i - j)) op_sub (fun dx dy d e => by unfold dSub at e; split at e <;> cases e; exact ⟨_, _, rfl, rfl, rfl⟩) fun _ _ _ _ => rep_mk_int
theorem od_lt : OpD X (compareOp .Lt) dLt := od_int0 (g' := fun i j => .bl (decide (i < j))) op_lt (fun dx dy d e => by unfold dLt at e; split at e <;> cases e; exact ⟨_, _, rfl, rfl, rfl⟩) fun _ _ _ _ => rep_mk_bl
theorem od_le : OpD X (compareOp .LtE) dLe := od_int0 (g' := fun i j => .bl (decide (i ≤ j))) op_le (fun dx dy d e => by unfold dLe at e; split at e <;> cases e; exact ⟨_, _, rfl, rfl, rfl⟩) fun _ _ _ _ => rep_mk_bl
theorem od_gt : OpD X (compareOp .Gt) dGt := od_int0 (g' := fun i j => .bl (decide (j < i))) op_gt (fun dx dy d e => by unfold dGt at e; split at e <;> cases e; exact ⟨_, _, rfl, rfl, rfl⟩) fun _ _ _ _ => rep_mk_bl
theorem od_ge : OpD X (compareOp .GtE) dGe := od_int0 (g' := fun i j => .bl (decide (j ≤ i))) op_ge (fun dx dy d e => by unfold dGe at e; split at e <;> cases e; exact ⟨_, _, rfl, rfl, rfl⟩) fun _ _ _ _ => rep_mk_bl
theorem od_mod : OpD X (binaryOp .Mod) dMod := od_int (g' := fun i j => .int (i % j)) op_mod (fun dx dy d e => by
  unfold dMod at e
  split at e
  · split at e <;> cases e
    rename_i h
    exact ⟨_, _, rfl, rfl, of_decide_eq_true h, rfl⟩
  · cases e) fun _ _ _ _ => rep_mk_int
theorem od_fdiv : OpD X (binaryOp .FloorDiv) dFdiv := od_int (g' := fun i j => .int (i / j)) op_fdiv (fun dx dy d e => by
  unfold dFdiv at e
  split at e
  · split at e <;> cases e
    rename_i h
    rw [Bool.and_eq_true] at h
    exact ⟨_, _, rfl, rfl, ⟨of_decide_eq_true h.1, of_decide_eq_true h.2⟩, rfl⟩
  · cases e) fun _ _ _ _ => rep_mk_int
theorem od_pow : OpD X (binaryOp .Pow) dPow := od_int (g' := fun i j => .int (i ^ j.toNat)) op_pow (fun dx dy d e => by
  unfold dPow at e
  split at e
  · split at e <;> cases e
    rename_i h
    rw [Bool.and_eq_true, Bool.and_eq_true] at h
    exact ⟨_, _, rfl, rfl, ⟨of_decide_eq_true h.1.1, of_decide_eq_true h.1.2, of_decide_eq_true h.2⟩, rfl⟩
  · cases e) fun _ _ _ _ => rep_mk_int
theorem rep_newL {K : PySem.W.Frag} {Hf H : Hp} {p : Addr} {xs : List V} {l : List D} (n : H p = none) (sm : Same Hf H) (hx : Reps K Hf l xs) :
    Gr [] Hf H (upd Hf p (.lst xs)) (upd H p (.lst xs)) ∧ Same (upd Hf p (.lst xs)) (upd H p (.lst xs)) ∧ Rep K (upd Hf p (.lst xs)) (.lst l) (.ref p) := by
  have g : Gr [] Hf H (upd Hf p (.lst xs)) (upd H p (.lst xs)) := Gr.alloc n sm
  refine ⟨g, Same.alloc sm, ?_⟩
  simp only [Rep]
  exact ⟨p, xs, rfl, upd_same, Reps.mono g.fz hx⟩
theorem od_add : OpD X (binaryOp .Add) dAdd := by
  intro pins s τ H x y v u Q Hf dx dy d I rx ry sm hx hy e k
  unfold dAdd at e
  split at e
  · cases e
    exact op_add pins s τ H x y v u Q I rx ry ⟨_, _, rep_int hx, rep_int hy, k _ _ Hf Gr.refl sm rep_mk_int⟩
  · split at e <;> cases e
    rename_i h
    exact op_add_str pins s τ H x y v u Q I rx ry ⟨_, _, rep_str hx, rep_str hy, okLen_ok h, k _ _ Hf Gr.refl sm rep_mk_str⟩
  · split at e <;> cases e
    rename_i h
    obtain ⟨a, xs, rfl, h1, h2⟩ := rep_lst hx
    obtain ⟨b, ys, rfl, h3, h4⟩ := rep_lst hy
    refine op_cat pins s τ H _ _ v u Q I rx ry ⟨a, b, xs, ys, rfl, rfl, sm _ _ h1, sm _ _ h3, by rw [h2.len, h4.len]; exact okLen_ok h, fun p n => ?_⟩
    obtain ⟨g1, g2, g3⟩ := rep_newL n sm (Reps.app h2 h4)
    exact k _ _ _ g1 g2 g3
  · cases e
theorem Reps.rep {K : PySem.W.Frag} {Hf : Hp} {l : List D} {xs : List V} (h : Reps K Hf l xs) : ∀ k : Nat, Reps K Hf (List.replicate k l).flatten (List.replicate k xs).flatten
  | 0 => by simpa using Reps.nil
  | k + 1 => by
    rw [List.replicate_succ, List.replicate_succ, List.flatten_cons, List.flatten_cons]
    exact Reps.app h (Reps.rep h k)
theorem od_mul : OpD X (binaryOp .Mult) dMul := by
  intro pins s τ H x y v u Q Hf dx dy d I rx ry sm hx hy e k
  unfold dMul at e
  split at e
  · split at e <;> cases e
    rename_i h
    exact op_mulW pins s τ H x y v u Q I rx ry ⟨_, _, rep_int hx, rep_int hy, (by unfold mulOk at h; unfold CMulW; exact of_decide_eq_true h), k _ _ Hf Gr.refl sm rep_mk_int⟩
  · split at e <;> cases e
    rename_i h
    rw [Bool.and_eq_true, Bool.and_eq_true] at h
    obtain ⟨a, xs, rfl, h1, h2⟩ := rep_lst hx
    rw [rep_int hy] at ry
    refine op_rep pins s τ H _ _ v u Q I rx ry ⟨a, _, xs, rfl, rfl, sm _ _ h1, of_decide_eq_true h.1.1, of_decide_eq_true h.1.2, by rw [h2.len]; exact okLen_ok h.2, fun p n => ?_⟩
    obtain ⟨g1, g2, g3⟩ := rep_newL n sm (Reps.rep h2 _)
    exact k _ _ _ g1 g2 g3
  · cases e
theorem od_in_aux {x y : V} {Hf H : Hp} {dx dy : D} {b : Bool} {Q : VK} (sm : Same Hf H) (hx : Rep X.K Hf dx x) (hy : Rep X.K Hf dy y) (e : inB dx dy = some b) (k : ∀ b', b' = b → Q (.bl b') H) (pos : Bool) :
    (∃ i j, x = .str i ∧ y = .str j ∧ (!(Builtin.Str.occurrences j i 0 j.length 1).isEmpty) = b) ∨ (∃ d ds, Dp X.K H x d ∧ Dp X.K H y (.list ds) ∧ SeqAt.shaped d = true ∧ SeqAt.shaped (.list ds) = true ∧ (ds.any fun z => PyData.eqv z d) = b) ∨ ∃ a ks l, dx = .str a ∧ dy = .dct ks l := by
  unfold inB at e
  split at e
  · cases e
    exact .inl ⟨_, _, rep_str hx, rep_str hy, rfl⟩
  · rename_i l _
    split at e
    · rename_i p m ep em
      split at e <;> cases e
      rename_i hs
      rw [Bool.and_eq_true] at hs
      refine .inr (.inl ⟨p, m, Rep.dp sm hx ep, Rep.dp sm hy ?_, hs.1, hs.2, rfl⟩)
      simp only [D.py]
      rw [em]
    · cases e
  · exact .inr (.inr ⟨_, _, _, rfl, rfl⟩)
  · cases e
/-- in, of texts and lists -/
def inB2 (x y : D) : Option Bool := match y with
  | .dct _ _ => none
  | _ => inB x y
def dInS (x y : D) : Option D := (inB2 x y).map D.bl
def dNotInS (x y : D) : Option D := (inB2 x y).map fun b => D.bl (!b)
theorem inB2_some {x y : D} {b : Bool} (h : inB2 x y = some b) : inB x y = some b ∧ ∀ ks l, y ≠ .dct ks l := by
  unfold inB2 at h
  split at h
  · cases h
  · rename_i hn
    exact ⟨h, fun ks l e => hn ks l e⟩
theorem od_in (hu : X.A.units + 65 < cLine) : OpD X (compareOp .In) dInS := by
  intro pins s τ H x y v u Q Hf dx dy d I rx ry sm hx hy e k
  unfold dInS at e
  cases eb : inB2 dx dy with
  | none => rw [eb] at e; cases e
  | some b =>
    rw [eb] at e
    cases e
    obtain ⟨e1, e2⟩ := inB2_some eb
    rcases od_in_aux (X := X) (Q := Q) sm hx hy e1 (fun b' z => by subst z; exact k _ _ Hf Gr.refl sm rep_mk_bl) true with ⟨i, j, rfl, rfl, h⟩ | ⟨p, m, h1, h2, h3, h4, h⟩ | ⟨a, ks, l, _, q⟩
    · exact op_in_str pins s τ H _ _ v u Q I rx ry ⟨i, j, rfl, rfl, k _ _ Hf Gr.refl sm (by rw [h]; exact rep_mk_bl)⟩
    · exact op_inD hu pins s τ H x y v u Q I rx ry ⟨p, m, h1, h2, h3, h4, k _ _ Hf Gr.refl sm (by rw [h]; exact rep_mk_bl)⟩
    · exact absurd q (e2 ks l)
theorem od_notIn (hu : X.A.units + 65 < cLine) : OpD X (compareOp .NotIn) dNotInS := by
  intro pins s τ H x y v u Q Hf dx dy d I rx ry sm hx hy e k
  unfold dNotInS at e
  cases eb : inB2 dx dy with
  | none => rw [eb] at e; cases e
  | some b =>
    rw [eb] at e
    cases e
    obtain ⟨e1, e2⟩ := inB2_some eb
    rcases od_in_aux (X := X) (Q := fun _ _ => True) sm hx hy e1 (fun _ _ => trivial) true with ⟨i, j, rfl, rfl, h⟩ | ⟨p, m, h1, h2, h3, h4, h⟩ | ⟨a, ks, l, _, q⟩
    · exact op_notin_str pins s τ H _ _ v u Q I rx ry ⟨i, j, rfl, rfl, k _ _ Hf Gr.refl sm (by rw [h]; exact rep_mk_bl)⟩
    · exact op_notInD hu pins s τ H x y v u Q I rx ry ⟨p, m, h1, h2, h3, h4, k _ _ Hf Gr.refl sm (by rw [h]; exact rep_mk_bl)⟩
    · exact absurd q (e2 ks l)
end

/-! ### subscripts -/
def dIx (x y : D) : Option D := match x, y with
  | .lst l, .int i => atI l i
  | .tup l, .int i => atI l i
  | .str z, .int i => if okLen z.length = true then (atI z.cps.toList i).map fun c => .str ⟨#[c]⟩ else none
  | _, _ => none
def dSub' (x y : D) : Option D := dIx x y
theorem ixN_len {n m : Nat} (h : n = m) (i : Int) : ixN n i = ixN m i := by rw [h]
theorem atI_reps {K : PySem.W.Frag} {Hf : Hp} {l : List D} {xs : List V} {i : Int} {d : D} (h : Reps K Hf l xs) (e : atI l i = some d) : ∃ v, atI xs i = some v ∧ Rep K Hf d v := by
  unfold atI at e ⊢
  rw [h.len]
  cases q : ixN l.length i with
  | none => rw [q] at e; cases e
  | some j =>
    rw [q] at e
    obtain ⟨v, e1, e2⟩ := h.get (i := j) e
    exact ⟨v, e1, e2⟩
/-- an operation by an index -/
def IxD (X : Cx) (h : D → D → Option D) : Prop := ∃ r : R2, IxR X r ∧ ∀ (x y : V) (H : Hp) (Q : VK) (Hf : Hp) (dx dy d : D), Same Hf H → Rep X.K Hf dx x → Rep X.K Hf dy y → h dx dy = some d → (∀ z H' Hf', Gr [] Hf H Hf' H' → Same Hf' H' → Rep X.K Hf' d z → Q z H') → r x y H Q
theorem ixd {X : Cx} : IxD X dIx := ⟨rIx X.K, ix_seq, fun x y H Q Hf dx dy d sm hx hy e k => by
  unfold dIx at e
  split at e
  · obtain ⟨a, xs, rfl, h1, h2⟩ := rep_lst hx
    obtain ⟨v, e1, e2⟩ := atI_reps h2 e
    exact .inl ⟨a, xs, _, v, rfl, rep_int hy, SqL.of (sm _ _ h1), e1, k _ _ Hf Gr.refl sm e2⟩
  · obtain ⟨a, xs, rfl, h1, h2⟩ := rep_tup hx
    obtain ⟨v, e1, e2⟩ := atI_reps h2 e
    exact .inr (.inl ⟨a, xs, _, v, rfl, rep_int hy, Same.seqT sm h1, e1, k _ _ Hf Gr.refl sm e2⟩)
  · split at e
    · rename_i z i hz
      cases q : atI z.cps.toList i with
      | none => rw [q] at e; cases e
      | some c =>
        rw [q] at e
        cases e
        exact .inr (.inr ⟨z, i, c, rep_str hx, rep_int hy, okLen_ok hz, q, k _ _ Hf Gr.refl sm rep_mk_str⟩)
    · cases e
  · cases e⟩
section
variable {X : Cx} {W : WX}
theorem de_ix {h : D → D → Option D} {a b : Expr} {f g : F D} {pos : Pos} (o : IxD X h) (ha : DE X W a f) (hb : DE X W b g) (hs : PlainIx b) : DE X W (.Subscript a b pos) (dBin h f g) := by
  obtain ⟨r, hr, hk⟩ := o
  exact (pe_ix hr ha hb hs).imp fun σ H Q q => (bin_of q).imp fun x H1 q1 => tG.imp q1 fun y H2 ⟨Hf, dx, dy, d, sm, hx, hy, e, k⟩ => hk x y H2 Q Hf dx dy d sm hx hy e k
/-- x[i] of a slot's own list -/
def dIxO (i : Nat) (g : F D) : F D := fun s => match (s[i]?).bind Sl.cell with
  | some _ => dB g (fun y s1 => match (s1[i]?).bind Sl.cell with
    | some (.lst l) => dO (match y with | .int j => atI l j | _ => none) s1
    | _ => .stk) s
  | none => .stk
theorem RS.slotVal {K : PySem.W.Frag} {B : Bs} {Hf H : Hp} {σ : St} {s : SD} (r : RS K B σ s Hf H) {i : Nat} {c : D} (e : (s[i]?).bind Sl.cell = some c) : ∃ a, σ[i]? = some (some (.ref a)) ∧ Cell K (nOf B a) Hf H c a := by
  cases es : s[i]? with
  | none => rw [es] at e; cases e
  | some t =>
    rw [es] at e
    obtain ⟨a, a1, _, a3⟩ := r.cellN es e
    exact ⟨a, a1, a3⟩
theorem de_ixO {a b : Expr} {i : Nat} {g : F D} {pos : Pos} (ha : PE X a (tVar i)) (hb : DE X W b g) (hs : PlainIx b) : DE X W (.Subscript a b pos) (dIxO i g) :=
  (pe_ix ix_list ha hb hs).imp fun σ H Q ⟨B, σd, Hf, r, p⟩ => by
    unfold dIxO at p
    split at p
    · rename_i c ec
      obtain ⟨q, a1, _⟩ := r.slotVal ec
      refine ⟨_, a1, (tG_seq r p).imp fun y H2 ⟨Hf2, s2, dy, e2, r2, hy, p2⟩ => ?_⟩
      split at p2
      · rename_i l el
        obtain ⟨q', a1', hc⟩ := r2.slotVal el
        rw [a1] at a1'
        cases a1'
        obtain ⟨h0, xs, h1, h2⟩ := hc
        unfold dO at p2
        split at p2
        · rename_i d ed
          split at ed
          · obtain ⟨v, e1, e3⟩ := atI_reps h2 ed
            exact ⟨q, xs, _, v, rfl, rep_int hy, SqL.of h1, e1, p2.done r2 e3⟩
          · cases ed
        · exact p2.elim
      · exact p2.elim
    · exact p.elim

/-! ### slices -/
def dPart (f : F D) : F (Option Int) := dB f fun d => match d with
  | .int i => dP (some i)
  | _ => fun _ => .stk
def dNoPart : F (Option Int) := dP none
abbrev DPo (X : Cx) (W : WX) (e : Option Expr) (f : F (Option Int)) : Prop := L2.PO X e (tG X.K W (fun _ o o' => o' = o) f)
theorem _root_.L2.PO.imp {X : Cx} {e : Option Expr} {t t' : TO} (h : L2.PO X e t) (k : ∀ σ H Q, t' σ H Q → t σ H Q) : L2.PO X e t' := ⟨fun pins s σ H Q I q => h.run pins s σ H Q I (k σ H Q q)⟩
theorem dpo_none : DPo X W none dNoPart := po_none.imp fun σ H Q ⟨B, σd, Hf, r, p⟩ => p.done r rfl
theorem dpo_some {e : Expr} {f : F D} (h : DE X W e f) : DPo X W (some e) (dPart f) := (po_some h).imp fun σ H Q ⟨B, σd, Hf, r, p⟩ => (tG_seq r p).imp fun v H1 ⟨Hf1, s1, d, e1, r1, hx, p1⟩ => by
  split at p1
  · rw [rep_int hx]
    exact ⟨_, rfl, p1.done r1 rfl⟩
  · exact p1.elim
def cutD (l : List D) (lo hi : Option Int) : List D := (l.drop (HT.sIx l.length 0 lo)).take (HT.sIx l.length l.length hi - HT.sIx l.length 0 lo)
theorem Reps.cut {K : PySem.W.Frag} {Hf : Hp} {l : List D} {xs : List V} (h : Reps K Hf l xs) (lo hi : Option Int) : Reps K Hf (cutD l lo hi) (cutV xs lo hi) := by
  unfold cutD cutV
  rw [h.len]
  exact Reps.take _ (Reps.drop _ h)
def dSlice (x : D) (lo hi : Option Int) : Option D := match x with
  | .lst l => some (.lst (cutD l lo hi))
  | .frl l => some (.lst (cutD l lo hi))
  | .str z => if okLen z.length = true then some (.str (cutS z lo hi)) else none
  | .tup l => if (decide (HT.sIx l.length 0 lo = 0) && decide (HT.sIx l.length l.length hi = l.length)) = true then none else some (.tup (cutD l lo hi))
  | _ => none
def dSl (f : F D) (g h : F (Option Int)) : F D := dB f fun x => dB g fun lo => dB h fun hi => dO (dSlice x lo hi)
theorem de_slice {e : Expr} {lo hi : Option Expr} {f : F D} {g h : F (Option Int)} {pos p2 : Pos} (he : DE X W e f) (hl : DPo X W lo g) (hu : DPo X W hi h) : DE X W (.Subscript e (.Slice lo hi none p2) pos) (dSl f g h) :=
  (pe_slice (sl_list.or (sl_str.or sl_tup)) he hl hu).imp fun σ H Q ⟨B, σd, Hf, r, p⟩ => (tG_seq r p).imp fun x H1 ⟨Hf1, s1, d, e1, r1, hx, p1⟩ =>
    (tG_seq r1 p1).imp fun l H2 ⟨Hf2, s2, l', e2, r2, hl, p2⟩ => (tG_seq r2 p2).imp fun u H3 ⟨Hf3, s3, u', e3, r3, hu, p3⟩ => by
      subst hl hu
      have hx3 := Rep.mono (e2.trans e3) hx
      unfold dO at p3
      split at p3
      · rename_i d' ed
        unfold dSlice at ed
        split at ed
        · cases ed
          obtain ⟨a, xs, rfl, h1, h2⟩ := rep_lst hx3
          refine .inl ⟨a, xs, rfl, SqL.of (r3.sub _ _ h1), fun q n => ?_⟩
          obtain ⟨g1, g2, g3⟩ := rep_newL n r3.sub (Reps.cut h2 l u)
          exact p3 _ _ _ g1.fz (r3.grow g1 g2) g3
        · cases ed
          simp only [Rep] at hx3
          obtain ⟨a, xs, rfl, h1, h2⟩ := hx3
          refine .inl ⟨a, xs, rfl, Same.seqL r3.sub h1, fun q n => ?_⟩
          obtain ⟨g1, g2, g3⟩ := rep_newL n r3.sub (Reps.cut h2 l u)
          exact p3 _ _ _ g1.fz (r3.grow g1 g2) g3
        · split at ed <;> cases ed
          rename_i hz
          exact .inr (.inl ⟨_, rep_str hx3, okLen_ok hz, p3.done r3 rep_mk_str⟩)
        · rename_i tl
          split at ed
          · cases ed
          · rename_i hw
            cases ed
            obtain ⟨a, xs, rfl, h1, h2⟩ := rep_tup hx3
            refine .inr (.inr ⟨a, xs, rfl, Same.seqT r3.sub h1, fun z => hw ?_, fun q n => ?_⟩)
            · rw [Bool.and_eq_true, ← h2.len]
              exact ⟨decide_eq_true z.1, decide_eq_true z.2⟩
            · obtain ⟨g1, g2, g3⟩ := gr_tup n r3.sub (Reps.cut h2 l u)
              exact p3 _ _ _ g1.fz (r3.grow g1 g2) g3
        · cases ed
      · exact p3.elim

/-! ### built-ins by name -/
/-- a built-in on data -/
def CallD (X : Cx) (f : Value) (h : List D → Option D) : Prop := ∃ r : List V → Hp → VK → Prop, CallR X f r ∧ ∀ (xs : List V) (H : Hp) (Q : VK) (Hf : Hp) (ds : List D) (d : D), Same Hf H → Reps X.K Hf ds xs → h ds = some d →
  (∀ z H' Hf', Gr [] Hf H Hf' H' → Same Hf' H' → Rep X.K Hf' d z → Q z H') → r xs H Q
def dBi (h : List D → Option D) (f : F (List D)) : F D := dB f fun l => dO (h l)
theorem bi_of {h : List D → Option D} {f : F (List D)} {r : List V → Hp → VK → Prop} {σ : St} {H : Hp} {Q : VK}
    (hk : ∀ (xs : List V) (H : Hp) (Q : VK) (Hf : Hp) (ds : List D) (d : D), Same Hf H → Reps X.K Hf ds xs → h ds = some d → (∀ z H' Hf', Gr [] Hf H Hf' H' → Same Hf' H' → Rep X.K Hf' d z → Q z H') → r xs H Q)
    (q : tM X.K W (dBi h f) σ H Q) : tCB r (tMA X.K W f) σ H Q := by
  obtain ⟨B, σd, Hf, r, p⟩ := q
  refine (tG_seq r p).imp fun xs H1 ⟨Hf1, s1, l, e1, r1, hx, p1⟩ => ?_
  unfold dO at p1
  split at p1
  · rename_i d e
    exact hk xs H1 Q Hf1 l d r1.sub hx e fun z H' Hf' g sm hz => p1 z H' Hf' g.fz (r1.grow g sm) hz
  · exact p1.elim
theorem de_bi {id : String} {h : List D → Option D} {x : Str} {p pos : Pos} {e : Expr} {es : List Expr} {f : F (List D)} (o : CallD X (.builtin id) h) (hg : Gl X x) (hm : X.mg x = none) (hv : bootBuiltins x = some (.builtin id)) (ha : DA X W (e :: es) f) (hn : x ≠ "__name__" := by decide) (hdb : (x == ("__debug__" : Str)) = false := by decide)
    (he : starEach (e :: es) X.env = (false, eval e X.env) :: starEach es X.env := by rfl) (hpl : (backTo pos (starEach es X.env)).any (·.1) = false := by rfl) : DE X W (.Call (.Name x p) (e :: es) [] pos) (dBi h f) := by
  obtain ⟨r, hr, hk⟩ := o
  exact (pe_callB hr hg hm hv ha hn hdb he hpl).imp fun σ H Q q => bi_of hk q
theorem de_ty {T : String} {h : List D → Option D} {x : Str} {p pos : Pos} {e : Expr} {es : List Expr} {f : F (List D)} (o : CallD X (.type T) h) (hg : Gl X x) (hm : X.mg x = none) (hv : bootBuiltins x = some (.type T)) (ha : DA X W (e :: es) f) (hn : x ≠ "__name__" := by decide) (hdb : (x == ("__debug__" : Str)) = false := by decide)
    (he : starEach (e :: es) X.env = (false, eval e X.env) :: starEach es X.env := by rfl) (hpl : (backTo pos (starEach es X.env)).any (·.1) = false := by rfl) : DE X W (.Call (.Name x p) (e :: es) [] pos) (dBi h f) := by
  obtain ⟨r, hr, hk⟩ := o
  exact (pe_callTy hr hg hm hv ha hn hdb he hpl).imp fun σ H Q q => bi_of hk q
def bLen (l : List D) : Option D := match l with
  | [.lst l] => some (.int l.length)
  | [.tup l] => some (.int l.length)
  | [.str z] => if okLen z.length = true then some (.int z.length) else none
  | _ => none
theorem cd_len : CallD X (.builtin "len") bLen := ⟨_, call_len_seq.or call_len_str, fun xs H Q Hf ds d sm hx e k => by
  unfold bLen at e
  split at e
  · cases e
    obtain ⟨v, rfl, hv⟩ := reps1 hx
    obtain ⟨a, ys, rfl, h1, h2⟩ := rep_lst hv
    exact .inl ⟨a, ys, rfl, .inl (SqL.of (sm _ _ h1)), by rw [h2.len]; exact k _ _ Hf Gr.refl sm rep_mk_int⟩
  · cases e
    obtain ⟨v, rfl, hv⟩ := reps1 hx
    obtain ⟨a, ys, rfl, h1, h2⟩ := rep_tup hv
    exact .inl ⟨a, ys, rfl, .inr (Same.seqT sm h1), by rw [h2.len]; exact k _ _ Hf Gr.refl sm rep_mk_int⟩
  · split at e <;> cases e
    rename_i z hz
    obtain ⟨v, rfl, hv⟩ := reps1 hx
    exact .inr ⟨z, by rw [rep_str hv], okLen_ok hz, k _ _ Hf Gr.refl sm rep_mk_int⟩
  · cases e⟩
def bAbs (l : List D) : Option D := match l with
  | [.int i] => some (.int (if i < 0 then -i else i))
  | _ => none
theorem cd_abs : CallD X (.builtin "abs") bAbs := ⟨_, call_abs, fun xs H Q Hf ds d sm hx e k => by
  unfold bAbs at e
  split at e <;> cases e
  obtain ⟨v, rfl, hv⟩ := reps1 hx
  exact ⟨_, by rw [rep_int hv], k _ _ Hf Gr.refl sm rep_mk_int⟩⟩
def bInt (l : List D) : Option D := match l with
  | [.int i] => some (.int i)
  | [.bl b] => some (.int (if b then 1 else 0))
  | _ => none
theorem cd_int : CallD X (.type "int") bInt := ⟨_, call_int1, fun xs H Q Hf ds d sm hx e k => by
  unfold bInt at e
  split at e
  · cases e
    obtain ⟨v, rfl, hv⟩ := reps1 hx
    exact .inl ⟨_, by rw [rep_int hv], k _ _ Hf Gr.refl sm rep_mk_int⟩
  · cases e
    obtain ⟨v, rfl, hv⟩ := reps1 hx
    exact .inr ⟨_, by rw [rep_bl rfl hv], k _ _ Hf Gr.refl sm rep_mk_int⟩
  · cases e⟩
def bList (l : List D) : Option D := match l with
  | [.lst l] => some (.lst l)
  | [.tup l] => some (.lst l)
  | _ => none
theorem cd_list : CallD X (.type "list") bList := ⟨_, call_list_of, fun xs H Q Hf ds d sm hx e k => by
  unfold bList at e
  split at e
  · cases e
    obtain ⟨v, rfl, hv⟩ := reps1 hx
    obtain ⟨a, ys, rfl, h1, h2⟩ := rep_lst hv
    refine ⟨a, ys, rfl, .inl (SqL.of (sm _ _ h1)), fun q n => ?_⟩
    obtain ⟨g1, g2, g3⟩ := rep_newL n sm h2
    exact k _ _ _ g1 g2 g3
  · cases e
    obtain ⟨v, rfl, hv⟩ := reps1 hx
    obtain ⟨a, ys, rfl, h1, h2⟩ := rep_tup hv
    refine ⟨a, ys, rfl, .inr (Same.seqT sm h1), fun q n => ?_⟩
    obtain ⟨g1, g2, g3⟩ := rep_newL n sm h2
    exact k _ _ _ g1 g2 g3
  · cases e⟩
def bTuple (l : List D) : Option D := match l with
  | [.lst l] => some (.tup l)
  | [.tup l] => some (.tup l)
  | _ => none
theorem cd_tuple : CallD X (.type "tuple") bTuple := ⟨_, call_tuple_of, fun xs H Q Hf ds d sm hx e k => by
  unfold bTuple at e
  split at e
  · cases e
    obtain ⟨v, rfl, hv⟩ := reps1 hx
    obtain ⟨a, ys, rfl, h1, h2⟩ := rep_lst hv
    refine ⟨a, ys, rfl, .inl ⟨SqL.of (sm _ _ h1), fun q n => ?_⟩⟩
    obtain ⟨g1, g2, g3⟩ := gr_tup n sm h2
    exact k _ _ _ g1 g2 g3
  · cases e
    obtain ⟨v, rfl, hv⟩ := reps1 hx
    obtain ⟨a, ys, rfl, h1, h2⟩ := rep_tup hv
    exact ⟨a, ys, rfl, .inr ⟨Same.seqT sm h1, k _ _ Hf Gr.refl sm hv⟩⟩
  · cases e⟩
/-- a list of truth values -/
def blsOf : List D → Option (List Bool)
  | [] => some []
  | .bl b :: l => (blsOf l).map (b :: ·)
  | _ => none
theorem reps_bls {K : PySem.W.Frag} {Hf : Hp} : ∀ {l : List D} {xs : List V} {bs : List Bool}, Reps K Hf l xs → blsOf l = some bs → xs = bs.map V.bl
  | [], xs, bs, h, e => by
    simp only [Reps] at h
    subst h
    cases e
    rfl
  | .bl b :: l, xs, bs, h, e => by
    simp only [Reps] at h
    obtain ⟨v, r, rfl, h1, h2⟩ := h
    unfold blsOf at e
    cases q : blsOf l with
    | none => rw [q] at e; cases e
    | some t =>
      rw [q] at e
      cases e
      rw [reps_bls h2 q, rep_bl rfl h1]
      rfl
  | .non :: l, xs, bs, h, e => by cases e
  | .int _ :: l, xs, bs, h, e => by cases e
  | .str _ :: l, xs, bs, h, e => by cases e
  | .tup _ :: l, xs, bs, h, e => by cases e
  | .lst _ :: l, xs, bs, h, e => by cases e
  | .dct _ _ :: l, xs, bs, h, e => by cases e
  | .obj _ _ _ :: l, xs, bs, h, e => by cases e
  | .glo _ :: l, xs, bs, h, e => by cases e
  | .exc _ _ _ :: l, xs, bs, h, e => by cases e
  | .ty _ :: l, xs, bs, h, e => by cases e
  | .frl _ :: l, xs, bs, h, e => by cases e
def bAll (l : List D) : Option D := match l with
  | [.lst l] => (blsOf l).map fun bs => .bl (bs.all id)
  | _ => none
def bAny (l : List D) : Option D := match l with
  | [.lst l] => (blsOf l).map fun bs => .bl (bs.any id)
  | _ => none
theorem cd_all (hc : X.calm = true) : CallD X (.builtin "all") bAll := ⟨_, cr_all hc, fun xs H Q Hf ds d sm hx e k => by
  unfold bAll at e
  split at e
  · rename_i l
    obtain ⟨v, rfl, hv⟩ := reps1 hx
    obtain ⟨a, ys, rfl, h1, h2⟩ := rep_lst hv
    cases q : blsOf l with
    | none => rw [q] at e; cases e
    | some bs =>
      rw [q] at e
      cases e
      have z := reps_bls h2 q
      subst z
      exact ⟨a, bs, rfl, SqL.of (sm _ _ h1), k _ _ Hf Gr.refl sm rep_mk_bl⟩
  · cases e⟩
theorem cd_any (hc : X.calm = true) : CallD X (.builtin "any") bAny := ⟨_, cr_any hc, fun xs H Q Hf ds d sm hx e k => by
  unfold bAny at e
  split at e
  · rename_i l
    obtain ⟨v, rfl, hv⟩ := reps1 hx
    obtain ⟨a, ys, rfl, h1, h2⟩ := rep_lst hv
    cases q : blsOf l with
    | none => rw [q] at e; cases e
    | some bs =>
      rw [q] at e
      cases e
      have z := reps_bls h2 q
      subst z
      exact ⟨a, bs, rfl, SqL.of (sm _ _ h1), k _ _ Hf Gr.refl sm rep_mk_bl⟩
  · cases e⟩
end
end DL
/-! DX1: an own exception class over a built-in's, its __init__ of the form: super().__init__('M'); self.code = 'M'; self.f = f. On the heap. -/
namespace DX
open PySem PySem.W PySem.Calls PyProof.Rows Builtin Builtin.ObjectAttr

/-- the built-in class above -/
structure Bt (B newId initId : String) (tl : List Value) : Prop where
  base : ExcBaseFacts B newId initId tl
  kxs : KxsFacts B initId
  sto : StoreFacts B tl "object.__setattr__" "object"
theorem bVE : Bt "ValueError" "ValueError.__new__" "ValueError.__init__" [.type "ValueError", .type "Exception", .type "BaseException", .type "object"] := ⟨F.excBase_ValueError, kxs_ValueError, F.store_ValueError⟩
theorem bLE : Bt "LookupError" "LookupError.__new__" "LookupError.__init__" [.type "LookupError", .type "Exception", .type "BaseException", .type "object"] := ⟨F.excBase_LookupError, kxs_LookupError, F.store_LookupError⟩
theorem bIE : Bt "IndexError" "IndexError.__new__" "IndexError.__init__" [.type "IndexError", .type "LookupError", .type "Exception", .type "BaseException", .type "object"] := ⟨F.excBase_IndexError, kxs_IndexError, F.store_IndexError⟩

/-- what the written part says of the class -/
structure ExC (K : Frag) (C : Addr) (B newId initId : String) (tl : List Value) : Prop where
  ini : excInitIn K C tl newId = true
  over : excOver K C tl = true
  hd : (clsIn K C).any (·.hasDict) = true
  sa : findIn K (.ref C) "__setattr__" = some (some (.builtin "object.__setattr__"))
  ga : findIn K (.ref C) "__getattribute__" = some (some (.builtin "BaseException.__getattribute__"))
  gg : findIn K (.ref C) "__getattr__" = some none
  kC : keepIn K (.ref C) = true
  exC : subIn K (.ref C) (.type "BaseException") = some true
  tyC : typeIn K (.ref C) = some (.type "type")
  sup : ks_superIn K C C "__init__" = some (some (.builtin initId))
  subB : subIn K (.ref C) (.type B) = some true
  self : mroIn K C (.ref C) = some true
  code : takerIn K C "code" = some none
  codeN : findIn K (.ref C) "code" = some none
/-- its own __init__ -/
structure ExI (K : Frag) (file : Str) (C fI : Addr) (qual : Str) (pa : Arguments) (bd : List Stmt) (sc : Scope) : Prop where
  iC : findIn K (.ref C) "__init__" = some (some (.ref fI))
  tI : typeIn K (.ref fI) = some (.type "function")
  fn : ∃ (cda cc : Addr) (oc : Value) (od : Option Addr) (kV doc pm : Value) (an : Option Addr) (ct : Value) (osl : Array (Option Value)) (ccl : Value) (cdd : Option Addr) (vs : Array Value) (ccs : Array (Option Value)) (tf : Tok) (cl : Value) (cld : Option Addr) (csl : Array (Option Value)),
    K.lookup fI = some ⟨oc, od, .func (fnX "__init__" qual pa bd sc [("__class__", cc)] .none kV doc pm an (.ref cda) ct), osl⟩ ∧ codeIn K (.ref cda) qual = true ∧
    K.lookup cda = some ⟨ccl, cdd, .fields vs, ccs⟩ ∧ vs[2]? = some (.str file tf) ∧ K.lookup cc = some ⟨cl, cld, .cell (some (.ref C)), csl⟩

section
variable {prog : Program} {w : World} {A : Around} {R : Result → Shared → Prop} {hp : Heap} {g : Array GenState} {d : Drawn} {t : Nat} {os : OsState} {K : Frag} {C x : Addr} {B newId initId : String} {tl : List Value} {name : Str} {tk : Tok} {v : Value}
theorem ExC.cd (T : ExC K C B newId initId tl) : ∃ cd, clsIn K C = some cd ∧ cd.hasDict = true := by
  have h := T.hd
  cases e : clsIn K C with
  | none => rw [e] at h; cases h
  | some cd => rw [e] at h; exact ⟨cd, rfl, h⟩
theorem ex_new (b : Bt B newId initId tl) (T : ExC K C B newId initId tl) (X : K.In hp) (hx : hp.get? x = some (HandSPX.excO C t)) (ha : takerIn K C name = some none)
    (hq : ∀ h' tk' dx, (∀ b o, b ≠ x → hp.get? b = some o → h'.get? b = some o) → hp.objs.size ≤ dx → dx ≠ x → h'.get? x = some { HandSPX.excO C t with dict := some dx } →
      h'.Ns1 dx (fun y => if y = name then some v else none) → R (.ok (.ret .none)) ⟨h', g, d, tk', os⟩) :
    codeAny (model prog w) A (.call (.builtin "object.__setattr__") ⟨[.ref x, .str name tk, v], []⟩) R ⟨hp, g, d, t0, os⟩ := by
  obtain ⟨cd, hcd, hh⟩ := T.cd
  have I : W.InstAt hp x (HandSPX.excO C t) C none := ⟨hx, rfl, rfl, trivial⟩
  have hxs : x ≠ hp.objs.size := Nat.ne_of_lt (Heap.lt_size hx)
  refine osa_openX b.sto X I T.over ha fun bb => ?_
  have hcls : W.Looks (model prog w) hp (classData C) cd := W.looks_clsIn X hcd
  obtain ⟨nm, bs, mro, ns, qn, hd, sn, sb, ab, col, del⟩ := cd
  dsimp only at hh
  subst hh
  unfold storeInOwnDict ownDictForStores
  repeat (first | with_reducible refine HandSPX.store_in_new ?_ ?_ | with_reducible refine wpAny_loadPart_at hx ?_ | with_reducible refine hcls.at ?_ | wp_step)
  · exact ⟨_, #[], _, (Heap.get?_update_ne _ _ _ _ hxs.symm).trans (Heap.get?_push_at rfl rfl), rfl, fun e he => absurd he (by simp), fun _ => rfl⟩
  · intro h' tk' hn' hs
    have hx₁ : (hp.push { cls := .type "dict", data := .dict #[] }).get? x = some (HandSPX.excO C t) := Heap.get?_push_of_some _ hx
    refine hq h' tk' hp.objs.size (fun b o hb ho => ?_) (Nat.le_refl _) hxs.symm ?_ hn'
    · exact (hs.2 b (Nat.ne_of_lt (Heap.lt_size ho))).trans ((Heap.get?_update_ne _ _ _ _ hb).trans (Heap.get?_push_of_some _ ho))
    · exact (hs.2 x hxs).trans (Heap.get?_update_self _ hx₁ rfl)
theorem ex_old {dx : Addr} {m0 : Str → Option Value} {nl : List Str} (b : Bt B newId initId tl) (T : ExC K C B newId initId tl) (X : K.In hp) (hx : hp.get? x = some { HandSPX.excO C t with dict := some dx }) (hns : hp.Ns1 dx m0) (hw : Within m0 nl) (hz : nl.length ≤ 1000) (ha : takerIn K C name = some none)
    (hq : ∀ h' tk', (∀ b o, b ≠ dx → hp.get? b = some o → h'.get? b = some o) → h'.Ns1 dx (fun y => if y = name then some v else m0 y) → R (.ok (.ret .none)) ⟨h', g, d, tk', os⟩) :
    codeAny (model prog w) A (.call (.builtin "object.__setattr__") ⟨[.ref x, .str name tk, v], []⟩) R ⟨hp, g, d, t0, os⟩ := by
  obtain ⟨cd, hcd, hh⟩ := T.cd
  obtain ⟨oD, esD, epD, hoD, hdD, _⟩ := hns.count hw
  have I : W.InstAt hp x { HandSPX.excO C t with dict := some dx } C (some oD) := ⟨hx, rfl, rfl, hoD⟩
  refine osa_openX b.sto X I T.over ha fun bb => ?_
  have hcls : W.Looks (model prog w) hp (classData C) cd := W.looks_clsIn X hcd
  obtain ⟨nm, bs, mro, ns, qn, hd, sn, sb, ab, col, del⟩ := cd
  dsimp only at hh
  subst hh
  unfold storeInOwnDict ownDictForStores
  repeat (first | with_reducible refine ESX.store_in_old hns hw hz ?_ | with_reducible refine wpAny_loadPart_at hx ?_ | with_reducible refine hcls.at ?_ | wp_step)
  intro h' tk' hn' hs
  exact hq h' tk' (fun b o hb ho => (hs.2 b hb).trans ho) hn'
end
end DX
/-! DX2: the body of such an __init__ walked on the heap. -/
namespace DX
open PySem PySem.W PySem.Calls PyProof.Rows Builtin Builtin.ObjectAttr

def iA1 (f : Str) (p1 p2 : Pos) : Arguments := { posonlyargs := [], args := [{ arg := "self", annotation := none, pos := p1 }, { arg := f, annotation := none, pos := p2 }], vararg := none, kwonlyargs := [], kw_defaults := [], kwarg := none, defaults := [] }
def iA0 (p1 : Pos) : Arguments := { posonlyargs := [], args := [{ arg := "self", annotation := none, pos := p1 }], vararg := none, kwonlyargs := [], kw_defaults := [], kwarg := none, defaults := [] }
def iSup (m : Str) (q1 q2 q3 q4 q5 q6 : Pos) : Stmt := .Expr (.Call (.Attribute (.Call (.Name "super" q1) [] [] q2) "__init__" q3) [.Constant (.str m) 0 q4] [] q5) q6
def iCode (m : Str) (q1 q2 q3 q4 : Pos) : Stmt := .Assign [.Attribute (.Name "self" q1) "code" q2] (.Constant (.str m) 0 q3) q4
def iFld (f : Str) (q1 q2 q3 q4 : Pos) : Stmt := .Assign [.Attribute (.Name "self" q1) f q2] (.Name f q3) q4
def iS1 (f : Str) : Scope := { kind := .function, names := [(PySem.Str.ofString "self", .local), (f, .local), (PySem.Str.ofString "__class__", .free), (PySem.Str.ofString "super", .globalImplicit)], isGenerator := false, isCoroutine := false, more := [] }
def iS0 : Scope := { kind := .function, names := [(PySem.Str.ofString "self", .local), (PySem.Str.ofString "__class__", .free), (PySem.Str.ofString "super", .globalImplicit)], isGenerator := false, isCoroutine := false, more := [] }

/-- how the call of super().__init__ is evaluated (by rfl at places that stand) -/
def SupEv (qual : Str) (sc : Scope) (q1 q2 q3 q4 q5 : Pos) (M : Str) : Prop := ∀ (L fI cda cc : Addr), ∃ pl : Sem Bool,
  eval (.Call (.Attribute (.Call (.Name "super" q1) [] [] q2) "__init__" q3) [.Constant (.str M) 0 q4] [] q5) (ksEnv qual sc L fI (.ref cda) cc) = (do
      let ov ← attributeBase (.Call (.Name "super" q1) [] [] q2) "__init__" (ksEnv qual sc L fI (.ref cda) cc) (eval (.Call (.Name "super" q1) [] [] q2) (ksEnv qual sc L fI (.ref cda) cc))
      standAt q3.atName
      let (f, first) ← holding [ov] (getMethod ov "__init__" pl)
      callWith q5 f first (backTo q5 (starEach [.Constant (.str M) 0 q4] (ksEnv qual sc L fI (.ref cda) cc))) [])
/-- what a frame of such an __init__ has at hand -/
structure Fm (K : Frag) (mg : Str → Option Value) (h : Heap) (L x : Addr) (m : Str → Option Value) : Prop where
  kin : K.In h
  gl : h.Ns mainGlobals mg
  blt : ∃ mb, h.Ns builtinsNs mb ∧ ∀ x : Str, x ≠ "__name__" → mb x = bootBuiltins x
  ns : h.Ns L m
  self : m "self" = some (.ref x)
theorem Ns.kp {h h' : Heap} {L : Addr} {m : Str → Option Value} {e : Addr} (hn : h.Ns L m) (hne : e ≠ L) (k : ∀ b o, b ≠ e → h.get? b = some o → h'.get? b = some o) : h'.Ns L m := by
  obtain ⟨o, es, ep, ho, r⟩ := hn
  exact ⟨o, es, ep, k _ _ (Ne.symm hne) ho, r⟩
theorem Fm.keeps {K : Frag} {mg : Str → Option Value} {h h' : Heap} {L x : Addr} {m : Str → Option Value} (F : Fm K mg h L x m) (k : ∀ b o, h.get? b = some o → h'.get? b = some o) : Fm K mg h' L x m := by
  obtain ⟨mb, b1, b2⟩ := F.blt
  exact ⟨F.kin.keeps k, F.gl.keeps k, ⟨mb, b1.keeps k, b2⟩, F.ns.keeps k, F.self⟩

section
variable {prog : Program} {w : World} {A : Around} {E : Value → Shared → Prop} {s : Shared} {K : Frag} {mg : Str → Option Value} {C fI x L t0 : Addr} {B newId initId : String} {tl : List Value} {qual : Str} {pa : Arguments} {bd : List Stmt} {sc : Scope} {M : Str} {m : Str → Option Value}
/-- the method-wrapper called: the args are laid anew -/
theorem ex_mw (b : Bt B newId initId tl) (T : ExC K C B newId initId tl) {u : Addr} {rest : List Value} {Q : Value → Shared → Prop} {h : Heap} {g : Array GenState} {d : Drawn} {t : Nat} {os : OsState} (X : K.In h) (hx : h.get? x = some (HandSPX.excO C t0)) (hu : h.get? u = some (kxs_mw initId x)) (hz : rest.length ≤ sizeLine)
    (hq : ∀ h' t1, (∀ b o, b ≠ x → h.get? b = some o → h'.get? b = some o) → h'.get? x = some (HandSPX.excO C t1) → Q .none ⟨h', g, d, t, os⟩) :
    wpAny (model prog w) A (call (.ref u) rest) Q E ⟨h, g, d, t, os⟩ := by
  obtain ⟨nm, N', qn, bs, bm, hdct, sn, sub, ab, col, dd, k0, k1, k2, k3, k5, hC, hT⟩ := excInit_of X T.ini
  refine wpAny_call (codeAny_of_tree ?_)
  show wpAny _ A.in1 (callAny (.ref u) ⟨rest, []⟩) _ _ _
  simp only [callAny]
  refine wpAny_bind (wpAny_load hu ?_)
  simp only [kxs_mw, show (Value.type "method-wrapper" == Value.type "method" || Value.type "method-wrapper" == Value.type "builtin_function_or_method" || Value.type "method-wrapper" == Value.type "method-wrapper") = true by decide, if_true]
  refine KFB.if_so (by decide) ?_
  refine wpAny_bind (check_bound_init b.base.toExcCallFacts hC hx rfl ?_)
  refine wpAny_bind (wpAny_pure (wpAny_pure ?_))
  refine ⟨plainId_quiet b.base.init.plain _, codeAny_builtin b.base.initEntry ?_⟩
  rw [Around.under_plainId b.base.init.plain _]
  exact exc_init_tree (cls := .ref C) (t0 := t0) (dv := none) (c2 := .none) (c3 := .none) (b4 := .bool false) hx hz fun h' k e _ => hq h' _ k e
/-- super().__init__('M') -/
theorem ex_super {q1 q2 q3 q4 q5 q6 : Pos} {cda cc : Addr} {body : List Stmt} {Q : Flow → Shared → Prop} {oc : Value} {od : Option Addr} {kV doc pm : Value} {an : Option Addr} {ct : Value} {osl : Array (Option Value)} {ccl : Value} {cdd : Option Addr} {vs : Array Value} {ccs : Array (Option Value)} {tf : Tok} {cl : Value} {cld : Option Addr} {csl : Array (Option Value)}
    (b : Bt B newId initId tl) (T : ExC K C B newId initId tl) (Fr : Fm K mg s.heap L x m) (hsup : mg "super" = none) (hop : nsIn K cStatics "thirdparty.any" = some none)
    (hf : K.lookup fI = some ⟨oc, od, .func (fnX "__init__" qual pa bd sc [("__class__", cc)] .none kV doc pm an (.ref cda) ct), osl⟩) (hcode : K.lookup cda = some ⟨ccl, cdd, .fields vs, ccs⟩) (hvs : vs[2]? = some (.str prog.main.file tf)) (hcell : K.lookup cc = some ⟨cl, cld, .cell (some (.ref C)), csl⟩)
    (hp : ∃ p, (pa.posonlyargs ++ pa.args).head? = some ⟨"self", none, p⟩) (htop : (prog.main.scope.names.lookup ("super" : Str)).isSome = false)
    (hks : sc.names.lookup ("super" : Str) = some .globalImplicit) (hkc : sc.names.lookup ("__class__" : Str) = some .free) (hka : sc.names.lookup ("self" : Str) = some .local) (hk : sc.kind = .function) (hi : interactive (ksEnv qual sc L fI (.ref cda) cc) = false)
    (hx : s.heap.get? x = some (HandSPX.excO C t0))
    (hev : SupEv qual sc q1 q2 q3 q4 q5 M)
    (hq : ∀ h' tk' t1, (∀ b o, b ≠ x → s.heap.get? b = some o → h'.get? b = some o) → h'.get? x = some (HandSPX.excO C t1) → Q .next { s with heap := h', toks := tk' }) :
    _root_.PySem.wpAt (model prog w) A (.func body (ksEnv qual sc L fI (.ref cda) cc)) (exec (iSup M q1 q2 q3 q4 q5 q6) (ksEnv qual sc L fI (.ref cda) cc)) Q E s := by
  obtain ⟨p, hp⟩ := hp
  obtain ⟨cd, hcd, _⟩ := T.cd
  obtain ⟨oD, hD1, hD2⟩ : ∃ oD, s.heap.get? C = some oD ∧ oD.data = .cls cd := by
    have hD := hcd
    unfold clsIn at hD
    split at hD
    · rename_i c d cd' sl ho
      cases hD
      exact ⟨_, Fr.kin _ _ ho, rfl⟩
    · cases hD
  have Ix : InstAt s.heap x (HandSPX.excO C t0) C none := ⟨hx, rfl, rfl, trivial⟩
  have hxC : x ≠ C := ks_ne Fr.kin Ix hcd
  obtain ⟨hh, g, d, t, os⟩ := s
  refine ks_wpAt_Expr_any ?_ hi
  obtain ⟨pl, hev⟩ := hev L fI cda cc
  refine ks_wpAt_MethodCall (pl := pl) ?_ hev
  refine ks_wpAt_super_base (env := ksEnv qual sc L fI (.ref cda) cc) hks hkc (by decide) rfl (Fr.kin _ _ hf) rfl hp rfl (Fr.kin _ _ hcode) rfl hvs (by simp) htop ?_
  obtain ⟨mb, hb1, hb2⟩ := Fr.blt
  refine ks_loadName_global hk hks (loadGlobal_builtin (env := ksEnv qual sc L fI (.ref cda) cc) Fr.gl hsup hb1 ((hb2 _ (by decide)).trans PyProof.Rows.Boot.«super») ⟨rfl, ?_⟩)
  refine wpAny_loadName_free hk hkc rfl ⟨_, Fr.kin _ _ hcell, rfl⟩ ?_
  refine wpAny_loadName_local hk hka Fr.ns Fr.self ?_
  refine ks_wpAny_isType_cls hD1 hD2 ⟨rfl, ?_⟩
  refine ks_wpAny_call_super hD1 hD2 hx rfl (fun c e => by cases e) (looks_mroIn Fr.kin T.self) (fun h1 e1 k1 => ?_)
  -- .__init__
  have hm := T.sup
  unfold ks_superIn at hm
  rw [hcd] at hm
  have hI : Looks (model prog w) h1 (isInstance (.ref x) (.type B)) true := (InstAt.type (od := none) ⟨k1 _ _ hx, rfl, rfl, trivial⟩ : Looks _ h1 (typeOf (.ref x)) (.ref C)).andThen (looks_subIn (Fr.kin.keeps k1) T.subB)
  refine kxs_getMethod b.kxs e1 (looks_opaque (Fr.kin.keeps k1) hop) (l₀ := cd.mro) ?_ rfl (Fr.kin.keeps k1) hm hI hxC (by decide) ?_
  · exact fun A Q E s k q => wpAny_bind ((looks_clsIn (Fr.kin.keeps k1) hcd) A _ E s k (wpAny_pure q))
  have k2 : ∀ b o, hh.get? b = some o → (h1.push (kxs_mw initId x)).get? b = some o := fun b o e => Heap.get?_push_of_some _ (k1 b o e)
  refine kxs_callWith (i := initId) (x := x) rfl ?_
  refine evalArgs_plain ?_
  refine Calls.spliced_cons (x := eval (.Constant (.str M) 0 q4) (ksEnv qual sc L fI (.ref cda) cc)) (Calls.Constant_str (k := 0) (pos := q4) (Calls.spliced_nil ⟨Heap.get?_push_at rfl rfl, ?_⟩))
  refine ex_mw b T (Fr.kin.keeps k2) (k2 _ _ hx) (Heap.get?_push_at rfl rfl) (by show 1 ≤ sizeLine; rw [sizeLine_eq]; omega) fun h' t1 k e => ?_
  exact hq h' _ t1 (fun b o hb ho => k b o hb (k2 b o ho)) e
/-- self.x = v, the first | a further one -/
theorem ex_set_new {o : Expr} {q2 q4 : Pos} {value : Expr} {env : Env} {name : Str} {v : Value} {Q : Flow → Shared → Prop} (b : Bt B newId initId tl) (T : ExC K C B newId initId tl) (ha : takerIn K C name = some none)
    (hv : ∀ {Q : Value → Shared → Prop}, (∀ tk, Q v { s with toks := tk }) → wpAny (model prog w) A (eval value env) Q E s) (ho : ∀ {Q : Value → Shared → Prop} {tk : Nat}, Q (.ref x) { s with toks := tk } → wpAny (model prog w) A (eval o env) Q E { s with toks := tk })
    (X : K.In s.heap) (hx : s.heap.get? x = some (HandSPX.excO C t0)) (hs : swapsWith value (some (.Attribute o name q2)) q4.line env = pure false)
    (hq : ∀ h' tk' dx, (∀ b o, b ≠ x → s.heap.get? b = some o → h'.get? b = some o) → s.heap.objs.size ≤ dx → dx ≠ x → h'.get? x = some { HandSPX.excO C t0 with dict := some dx } →
      h'.Ns1 dx (fun y => if y = name then some v else none) → Q .next { s with heap := h', toks := tk' }) :
    wpAny (model prog w) A (exec (.Assign [.Attribute o name q2] value q4) env) Q E s := by
  refine plainObj_wpAny_Assign_Attribute (hv fun tk => ho ?_) hs
  obtain ⟨hp, g, d, t, os⟩ := s
  refine set_plain X (ox := HandSPX.excO C t0) (od := none) ⟨hx, rfl, rfl, trivial⟩ T.sa ?_
  exact ex_new b T X hx ha fun h' tk' dx k dn dne e hn => hq h' tk' dx k dn dne e hn
theorem ex_set_old {o : Expr} {q2 q4 : Pos} {value : Expr} {env : Env} {name : Str} {v : Value} {dx : Addr} {m0 : Str → Option Value} {nl : List Str} {Q : Flow → Shared → Prop} (b : Bt B newId initId tl) (T : ExC K C B newId initId tl) (ha : takerIn K C name = some none)
    (hv : ∀ {Q : Value → Shared → Prop}, (∀ tk, Q v { s with toks := tk }) → wpAny (model prog w) A (eval value env) Q E s) (ho : ∀ {Q : Value → Shared → Prop} {tk : Nat}, Q (.ref x) { s with toks := tk } → wpAny (model prog w) A (eval o env) Q E { s with toks := tk })
    (X : K.In s.heap) (hx : s.heap.get? x = some { HandSPX.excO C t0 with dict := some dx }) (hns : s.heap.Ns1 dx m0) (hw : Within m0 nl) (hz : nl.length ≤ 1000) (hs : swapsWith value (some (.Attribute o name q2)) q4.line env = pure false)
    (hq : ∀ h' tk', (∀ b o, b ≠ dx → s.heap.get? b = some o → h'.get? b = some o) → h'.Ns1 dx (fun y => if y = name then some v else m0 y) → Q .next { s with heap := h', toks := tk' }) :
    wpAny (model prog w) A (exec (.Assign [.Attribute o name q2] value q4) env) Q E s := by
  refine plainObj_wpAny_Assign_Attribute (hv fun tk => ho ?_) hs
  obtain ⟨hp, g, d, t, os⟩ := s
  obtain ⟨oD, _, _, hoD, _, _⟩ := hns.count hw
  refine set_plain X (ox := { HandSPX.excO C t0 with dict := some dx }) (od := some oD) ⟨hx, rfl, rfl, hoD⟩ T.sa ?_
  exact ex_old b T X hx hns hw hz ha fun h' tk' k hn => hq h' tk' k hn
end
end DX
/-! DX3: such an __init__ called; such a class called. -/
namespace DX
open PySem PySem.W PySem.Calls PyProof.Rows Builtin Builtin.ObjectAttr

def fOk (f : Str) : Bool := !(f == ("self" : Str)) && (!(f == ("__class__" : Str)) && (!(f == ("super" : Str)) && (!(f == ("__debug__" : Str)) && !(f == ("code" : Str)))))
theorem fOk_ok {f : Str} (h : fOk f = true) : (f == ("self" : Str)) = false ∧ (f == ("__class__" : Str)) = false ∧ (f == ("super" : Str)) = false ∧ (f == ("__debug__" : Str)) = false ∧ (f == ("code" : Str)) = false := by
  unfold fOk at h
  simp only [Bool.and_eq_true, Bool.not_eq_true'] at h
  exact h
theorem kept_but {K : Frag} {h h' : Heap} {x : Addr} (X : K.In h) (hx : K.lookup x = none) (k : ∀ b o, b ≠ x → h.get? b = some o → h'.get? b = some o) : K.In h' := fun a o e =>
  k a o (fun z => by rw [z, hx] at e; cases e) (X a o e)
/-- the module as it stands -/
structure Md (K : Frag) (mg : Str → Option Value) (h : Heap) : Prop where
  kin : K.In h
  gl : h.Ns mainGlobals mg
  blt : ∃ mb, h.Ns builtinsNs mb ∧ ∀ x : Str, x ≠ "__name__" → mb x = bootBuiltins x
  lim : h.NoLimit
theorem Md.keeps {K : Frag} {mg : Str → Option Value} {h h' : Heap} (F : Md K mg h) (k : ∀ b o, h.get? b = some o → h'.get? b = some o) : Md K mg h' := by
  obtain ⟨mb, b1, b2⟩ := F.blt
  exact ⟨F.kin.keeps k, F.gl.keeps k, ⟨mb, b1.keeps k, b2⟩, F.lim.keeps k⟩
/-- the program's text around -/
structure Pg (prog : Program) (K : Frag) (mg : Str → Option Value) : Prop where
  sup : mg "super" = none
  opq : nsIn K cStatics "thirdparty.any" = some none
  top : (prog.main.scope.names.lookup ("super" : Str)).isSome = false
/-- how the call binds (by rfl where the name stands) -/
def Bi1 (f : Str) : Prop := ∀ (s : Shared) (qual : Str) (p1 p2 : Pos) (bd : List Stmt) (sc : Scope) (cc : Addr) (kV doc pm : Value) (an : Option Addr) (cdv ct : Value) (x : Addr) (v : Value),
  BindsTo s (fnX "__init__" qual (iA1 f p1 p2) bd sc [("__class__", cc)] .none kV doc pm an cdv ct) ⟨[.ref x, v], []⟩ [("self", .ref x), (f, v)]
def Bi0 : Prop := ∀ (s : Shared) (qual : Str) (p1 : Pos) (bd : List Stmt) (sc : Scope) (cc : Addr) (kV doc pm : Value) (an : Option Addr) (cdv ct : Value) (x : Addr),
  BindsTo s (fnX "__init__" qual (iA0 p1) bd sc [("__class__", cc)] .none kV doc pm an cdv ct) ⟨[.ref x], []⟩ [("self", .ref x)]
theorem bi0 : Bi0 := fun _ _ _ _ _ _ _ _ _ _ _ _ _ => BindsTo.of_eq (by first | rfl | with_unfolding_all rfl)
theorem bi1_given : Bi1 "given" := fun _ _ _ _ _ _ _ _ _ _ _ _ _ _ _ => BindsTo.of_eq (by first | rfl | with_unfolding_all rfl)
/-- what __init__ leaves -/
structure End (h h' : Heap) (x C dx t1 : Addr) (mA : Str → Option Value) : Prop where
  keep : ∀ b o, b ≠ x → h.get? b = some o → h'.get? b = some o
  obj : h'.get? x = some { HandSPX.excO C t1 with dict := some dx }
  big : h.objs.size ≤ dx
  dne : dx ≠ x
  ns : h'.Ns1 dx mA

section
variable {prog : Program} {w : World} {A : Around} {E : Value → Shared → Prop} {R : Result → Shared → Prop} {s : Shared} {K : Frag} {mg : Str → Option Value} {C fI x t0 : Addr} {B newId initId : String} {tl : List Value} {qual : Str} {M f : Str} {v : Value}
variable {p1 p2 q1 q2 q3 q4 q5 q6 r1 r2 r3 r4 z1 z2 z3 z4 : Pos}
theorem ex_init1 (b : Bt B newId initId tl) (T : ExC K C B newId initId tl) (I : ExI K prog.main.file C fI qual (iA1 f p1 p2) [iSup M q1 q2 q3 q4 q5 q6, iCode M r1 r2 r3 r4, iFld f z1 z2 z3 z4] (iS1 f)) (P : Pg prog K mg) (hf : fOk f = true) (hb : Bi1 f) (hfi : takerIn K C f = some none)
    (hev : SupEv qual (iS1 f) q1 q2 q3 q4 q5 M) (Y : Md K mg s.heap) (hx : s.heap.get? x = some (HandSPX.excO C t0)) (hnx : K.lookup x = none) (hroom : A.depth < recursionLimit)
    (hq : ∀ h' tk' dx t1 tkM, End s.heap h' x C dx t1 (fun y => if y = f then some v else if y = "code" then some (.str M tkM) else none) → R (.ok (.ret .none)) { s with heap := h', toks := tk' }) :
    codeAny (model prog w) A (.call (.ref fI) ⟨[.ref x, v], []⟩) R s := by
  obtain ⟨f1, f2, f3, f4, f5⟩ := fOk_ok hf
  obtain ⟨cda, cc, oc, od, kV, doc, pm, an, ct, osl, ccl, cdd, vs, ccs, tf, cl, cld, csl, hfn, hcd, hcode, hvs, hcell⟩ := I.fn
  have hs1 : (("self" : Str) == f) = false := by rw [beq_eq_false_iff_ne] at f1 ⊢; exact Ne.symm f1
  have hlf : (iS1 f).names.lookup f = some .local := by
    show List.lookup f [((PySem.Str.ofString "self" : Str), NameKind.local), (f, .local), (PySem.Str.ofString "__class__", .free), (PySem.Str.ofString "super", .globalImplicit)] = _
    simp [List.lookup, f1]
  have hls : (iS1 f).names.lookup ("self" : Str) = some .local := by
    show List.lookup ("self" : Str) [((PySem.Str.ofString "self" : Str), NameKind.local), (f, .local), (PySem.Str.ofString "__class__", .free), (PySem.Str.ofString "super", .globalImplicit)] = _
    simp [List.lookup]
  have hlc : (iS1 f).names.lookup ("__class__" : Str) = some .free := by
    have e : (("__class__" : Str) == f) = false := by rw [beq_eq_false_iff_ne] at f2 ⊢; exact Ne.symm f2
    show List.lookup ("__class__" : Str) [((PySem.Str.ofString "self" : Str), NameKind.local), (f, .local), (PySem.Str.ofString "__class__", .free), (PySem.Str.ofString "super", .globalImplicit)] = _
    rw [List.lookup, show (("__class__" : Str) == PySem.Str.ofString "self") = false by decide, List.lookup, e, List.lookup]
    simp
  have hlu : (iS1 f).names.lookup ("super" : Str) = some .globalImplicit := by
    have e : (("super" : Str) == f) = false := by rw [beq_eq_false_iff_ne] at f3 ⊢; exact Ne.symm f3
    show List.lookup ("super" : Str) [((PySem.Str.ofString "self" : Str), NameKind.local), (f, .local), (PySem.Str.ofString "__class__", .free), (PySem.Str.ofString "super", .globalImplicit)] = _
    rw [List.lookup, show (("super" : Str) == PySem.Str.ofString "self") = false by decide, List.lookup, e, List.lookup, show (("super" : Str) == PySem.Str.ofString "__class__") = false by decide, List.lookup]
    simp
  refine ks_codeAny_call_defAt (fd := fnX "__init__" qual (iA1 f p1 p2) [iSup M q1 q2 q3 q4 q5 q6, iCode M r1 r2 r3 r4, iFld f z1 z2 z3 z4] (iS1 f) [("__class__", cc)] .none kV doc pm an (.ref cda) ct) (body := [iSup M q1 q2 q3 q4 q5 q6, iCode M r1 r2 r3 r4, iFld f z1 z2 z3 z4])
    (binds := [("self", .ref x), (f, v)]) hroom (Y.kin _ _ hfn) rfl Y.lim (codeRec_of Y.kin hcd) rfl (hb _ _ _ _ _ _ _ _ _ _ _ _ _ _ _) ?_ ?_ (fun h₁ hns hk₁ => ?_) rfl rfl rfl
  · intro y hy
    have hy' : y ∈ [((PySem.Str.ofString "self" : Str), NameKind.local), (f, .local), (PySem.Str.ofString "__class__", .free), (PySem.Str.ofString "super", .globalImplicit)] := hy
    simp only [List.mem_cons, List.not_mem_nil, or_false] at hy'
    rcases hy' with rfl | rfl | rfl | rfl <;> simp
  · intro y hy
    simp only [List.mem_cons, List.not_mem_nil, or_false] at hy
    rcases hy with rfl | rfl
    · exact hls
    · exact hlf
  · have mS : ([(("self" : Str), Value.ref x), (f, v)].reverse).lookup ("self" : Str) = some (.ref x) := by
      show List.lookup ("self" : Str) [(f, v), (("self" : Str), Value.ref x)] = _
      rw [List.lookup, hs1, List.lookup]
      simp
    have mF : ([(("self" : Str), Value.ref x), (f, v)].reverse).lookup f = some v := by
      show List.lookup f [(f, v), (("self" : Str), Value.ref x)] = _
      simp [List.lookup]
    have Y1 := Y.keeps hk₁
    have F1 : Fm K mg h₁ s.heap.objs.size x (fun y => ([(("self" : Str), Value.ref x), (f, v)].reverse).lookup y) := ⟨Y1.kin, Y1.gl, Y1.blt, hns, mS⟩
    have hxL : x ≠ s.heap.objs.size := Nat.ne_of_lt (Heap.lt_size hx)
    refine ks_wpAt_execs_cons (ex_super (body := [iSup M q1 q2 q3 q4 q5 q6, iCode M r1 r2 r3 r4, iFld f z1 z2 z3 z4]) (C := C) (x := x) (t0 := t0) b T F1 P.sup P.opq hfn hcode hvs hcell ⟨p1, rfl⟩ P.top hlu hlc hls rfl rfl (hk₁ _ _ hx) hev fun h2 tk2 t1 k2 e2 => ?_)
    refine wpAt_of_wpAny ?_
    have X2 : K.In h2 := kept_but Y1.kin hnx k2
    have n2 : h2.Ns s.heap.objs.size (fun y => ([(("self" : Str), Value.ref x), (f, v)].reverse).lookup y) := Ns.kp hns hxL k2
    refine wpAny_execs_cons (ex_set_new (x := x) (t0 := t1) (v := .str M tk2) b T T.code (fun hQ => Calls.Constant_str (hQ _)) (fun hQ => wpAny_Name (wpAny_loadName_local rfl hls n2 mS hQ) (by decide)) X2 e2 rfl fun h3 tk3 dx k3 dn dne e3 n3 => ?_)
    have X3 : K.In h3 := kept_but X2 hnx k3
    have n3' : h3.Ns s.heap.objs.size (fun y => ([(("self" : Str), Value.ref x), (f, v)].reverse).lookup y) := Ns.kp n2 hxL k3
    refine wpAny_execs_cons (ex_set_old (x := x) (t0 := t1) (dx := dx) (nl := ["code"]) (v := v) b T hfi (fun hQ => wpAny_Name (wpAny_loadName_local rfl hlf n3' mF (hQ tk3)) f4) (fun hQ => wpAny_Name (wpAny_loadName_local rfl hls n3' mS hQ) (by decide)) X3 e3 n3 (fun y hy => ?_) (by decide) rfl fun h4 tk4 k4 n4 => ?_)
    · by_cases e : y = "code"
      · rw [e]; exact List.mem_cons_self ..
      · exact absurd (if_neg e) hy
    · have lt : s.heap.objs.size < dx := Nat.lt_of_lt_of_le n2.lt dn
      refine wpAny_execs_nil (hq h4 tk4 dx t1 tk2 ⟨fun b o hb e => k4 b o (Nat.ne_of_lt (Nat.lt_trans (Heap.lt_size e) lt)) (k3 b o hb (k2 b o hb (hk₁ b o e))), k4 _ _ (Ne.symm dne) e3, Nat.le_of_lt lt, dne, n4⟩)
theorem ex_init0 (b : Bt B newId initId tl) (T : ExC K C B newId initId tl) (I : ExI K prog.main.file C fI qual (iA0 p1) [iSup M q1 q2 q3 q4 q5 q6, iCode M r1 r2 r3 r4] iS0) (P : Pg prog K mg) (hb : Bi0)
    (hev : SupEv qual iS0 q1 q2 q3 q4 q5 M) (Y : Md K mg s.heap) (hx : s.heap.get? x = some (HandSPX.excO C t0)) (hnx : K.lookup x = none) (hroom : A.depth < recursionLimit)
    (hq : ∀ h' tk' dx t1 tkM, End s.heap h' x C dx t1 (fun y => if y = "code" then some (.str M tkM) else none) → R (.ok (.ret .none)) { s with heap := h', toks := tk' }) :
    codeAny (model prog w) A (.call (.ref fI) ⟨[.ref x], []⟩) R s := by
  obtain ⟨cda, cc, oc, od, kV, doc, pm, an, ct, osl, ccl, cdd, vs, ccs, tf, cl, cld, csl, hfn, hcd, hcode, hvs, hcell⟩ := I.fn
  have hls : iS0.names.lookup ("self" : Str) = some .local := by decide
  have hlc : iS0.names.lookup ("__class__" : Str) = some .free := by decide
  have hlu : iS0.names.lookup ("super" : Str) = some .globalImplicit := by decide
  refine ks_codeAny_call_defAt (fd := fnX "__init__" qual (iA0 p1) [iSup M q1 q2 q3 q4 q5 q6, iCode M r1 r2 r3 r4] iS0 [("__class__", cc)] .none kV doc pm an (.ref cda) ct) (body := [iSup M q1 q2 q3 q4 q5 q6, iCode M r1 r2 r3 r4])
    (binds := [("self", .ref x)]) hroom (Y.kin _ _ hfn) rfl Y.lim (codeRec_of Y.kin hcd) rfl (hb _ _ _ _ _ _ _ _ _ _ _ _ _) ?_ ?_ (fun h₁ hns hk₁ => ?_) rfl rfl rfl
  · exact (show ∀ x ∈ iS0.names, x.2 ≠ .cell by decide)
  · intro y hy
    simp only [List.mem_cons, List.not_mem_nil, or_false] at hy
    rcases hy with rfl
    exact hls
  · have mS : ([(("self" : Str), Value.ref x)].reverse).lookup ("self" : Str) = some (.ref x) := by
      show List.lookup ("self" : Str) [(("self" : Str), Value.ref x)] = _
      simp [List.lookup]
    have Y1 := Y.keeps hk₁
    have F1 : Fm K mg h₁ s.heap.objs.size x (fun y => ([(("self" : Str), Value.ref x)].reverse).lookup y) := ⟨Y1.kin, Y1.gl, Y1.blt, hns, mS⟩
    have hxL : x ≠ s.heap.objs.size := Nat.ne_of_lt (Heap.lt_size hx)
    refine ks_wpAt_execs_cons (ex_super (body := [iSup M q1 q2 q3 q4 q5 q6, iCode M r1 r2 r3 r4]) (C := C) (x := x) (t0 := t0) b T F1 P.sup P.opq hfn hcode hvs hcell ⟨p1, rfl⟩ P.top hlu hlc hls rfl rfl (hk₁ _ _ hx) hev fun h2 tk2 t1 k2 e2 => ?_)
    refine wpAt_of_wpAny ?_
    have X2 : K.In h2 := kept_but Y1.kin hnx k2
    have n2 : h2.Ns s.heap.objs.size (fun y => ([(("self" : Str), Value.ref x)].reverse).lookup y) := Ns.kp hns hxL k2
    refine wpAny_execs_cons (ex_set_new (x := x) (t0 := t1) (v := .str M tk2) b T T.code (fun hQ => Calls.Constant_str (hQ _)) (fun hQ => wpAny_Name (wpAny_loadName_local rfl hls n2 mS hQ) (by decide)) X2 e2 rfl fun h3 tk3 dx k3 dn dne e3 n3 => ?_)
    have lt : s.heap.objs.size < dx := Nat.lt_of_lt_of_le n2.lt dn
    refine wpAny_execs_nil (hq h3 tk3 dx t1 tk2 ⟨fun b o hb e => k3 b o hb (k2 b o hb (hk₁ b o e)), e3, Nat.le_of_lt lt, dne, n3⟩)
/-- a made one -/
structure Made (h h' : Heap) (e C dx t1 : Addr) (mA : Str → Option Value) : Prop where
  keep : ∀ b o, h.get? b = some o → h'.get? b = some o
  new : h.objs.size ≤ e
  obj : h'.get? e = some { HandSPX.excO C t1 with dict := some dx }
  big : h.objs.size ≤ dx
  dne : dx ≠ e
  ns : h'.Ns1 dx mA
theorem look_new {h : Heap} (X : K.In h) {a : Addr} (ha : h.objs.size ≤ a) : K.lookup a = none := by
  cases e : K.lookup a with
  | none => rfl
  | some o => exact absurd (Heap.lt_size (X _ _ e)) (Nat.not_lt.mpr ha)
theorem ex_call {rest : List Value} {mA : Nat → Str → Option Value} (b : Bt B newId initId tl) (T : ExC K C B newId initId tl) (iC : findIn K (.ref C) "__init__" = some (some (.ref fI))) (tI : typeIn K (.ref fI) = some (.type "function")) (Y : Md K mg s.heap) (hz : rest.length ≤ 1000) (hroom : A.depth + 1 < recursionLimit)
    (hi : ∀ {A : Around} {R : Result → Shared → Prop} {s : Shared} {x t0 : Addr}, Md K mg s.heap → s.heap.get? x = some (HandSPX.excO C t0) → K.lookup x = none → A.depth < recursionLimit →
      (∀ h' tk' dx t1 tkM, End s.heap h' x C dx t1 (mA tkM) → R (.ok (.ret .none)) { s with heap := h', toks := tk' }) → codeAny (model prog w) A (.call (.ref fI) ⟨.ref x :: rest, []⟩) R s)
    (hq : ∀ h' tk' e dx t1 tkM, Made s.heap h' e C dx t1 (mA tkM) → R (.ok (.ret (.ref e))) { s with heap := h', toks := tk' }) :
    codeAny (model prog w) A (.call (.ref C) ⟨rest, []⟩) R s := by
  obtain ⟨nm, N', qn, bs, bm, hdct, sn, sub, ab, col, dd, k0, k1, k2, k3, k5, hC, hT⟩ := excInit_of Y.kin T.ini
  obtain ⟨hp, g, dr, tk, os⟩ := s
  have k : ∀ b o, hp.get? b = some o → ((hp.push (kdv_tup rest)).push (HandSPX.excO C hp.objs.size)).get? b = some o := fun b o e => Heap.get?_push_of_some _ (Heap.get?_push_of_some _ e)
  have hget : ((hp.push (kdv_tup rest)).push (HandSPX.excO C hp.objs.size)).get? (hp.objs.size + 1) = some (HandSPX.excO C hp.objs.size) := by heap_get
  refine HandSPX.call_own b.base hT hC (looks_findIn Y.kin iC) (fun self => bind_fn Y.kin self tI) (by rw [sizeLine_eq]; omega) ?_
  refine hi (s := ⟨(hp.push (kdv_tup rest)).push (HandSPX.excO C hp.objs.size), g, dr, tk, os⟩) (Y.keeps k) hget (look_new Y.kin (Nat.le_succ _)) ?_ fun h' tk' dx t1 tkM N => ?_
  · show A.depth + 1 < recursionLimit
    exact hroom
  · have old : ∀ b o, hp.get? b = some o → h'.get? b = some o := fun b o e => N.keep b o (Nat.ne_of_lt (Nat.lt_succ_of_lt (Heap.lt_size e))) (k b o e)
    have z : hp.objs.size ≤ dx := by
      have q : ((hp.push (kdv_tup rest)).push (HandSPX.excO C hp.objs.size)).objs.size ≤ dx := N.big
      rw [Heap.size_push, Heap.size_push] at q
      omega
    exact ⟨rfl, hq h' tk' (hp.objs.size + 1) dx t1 tkM ⟨old, Nat.le_succ _, N.obj, z, N.dne, N.ns⟩⟩
end
end DX
/-! DL8: own exceptions as data: made, raised, read. -/
namespace DL
open PySem L2

/-- the class of that name makes exceptions of the attributes ns (the arguments in order), then code -/
structure ExKd (P : Program) (w : World) (K : PySem.W.Frag) (mg : Str → Option Value) (x : Str) (ns : List Str) (m : Str) : Prop where
  made : ∀ {A : Around} {R : Result → Shared → Prop} {s : Shared} {rest : List Value}, DX.Md K mg s.heap → rest.length = ns.length → A.depth + 1 < recursionLimit →
    (∀ h' tk' e dx t1 tkM, DX.Made s.heap h' e (He.ga K x) dx t1 (fun y => ((ns.zip rest) ++ [(("code" : Str), Value.str m tkM)]).lookup y) → R (.ok (.ret (.ref e))) { s with heap := h', toks := tk' }) → codeAny (model P w) A (.call (.ref (He.ga K x)) ⟨rest, []⟩) R s
  kC : PySem.W.keepIn K (.ref (He.ga K x)) = true
  exC : PySem.W.subIn K (.ref (He.ga K x)) (.type "BaseException") = some true
  tyC : PySem.W.typeIn K (.ref (He.ga K x)) = some (.type "type")
  gl : mg x = some (.ref (He.ga K x))

theorem relO_zip {ns : List Str} {vs : List V} {us : List Value} {m : Str} {t : Tok} (r : Vals vs us) (y : Str) : RelO (((ns.zip vs) ++ [(("code" : Str), V.str m)]).lookup y) (((ns.zip us) ++ [(("code" : Str), Value.str m t)]).lookup y) := by
  induction r generalizing ns with
  | nil =>
    cases ns <;>
    · simp only [List.zip_nil_right, List.zip_nil_left, List.nil_append, List.lookup]
      cases h : (y == ("code" : Str)) with
      | true => exact ⟨_, rfl⟩
      | false => trivial
  | @cons v u vs us rv rt ih =>
    cases ns with
    | nil =>
      simp only [List.zip_nil_left, List.nil_append, List.lookup]
      cases h : (y == ("code" : Str)) with
      | true => exact ⟨_, rfl⟩
      | false => trivial
    | cons n ns =>
      simp only [List.zip_cons_cons, List.cons_append, List.lookup]
      cases h : (y == n) with
      | true => exact rv
      | false => exact ih

/-- the attributes of one -/
def exFs (ns : List Str) (vs : List V) (m : Str) : List (Str × V) := (ns.zip vs) ++ [(("code" : Str), V.str m)]
theorem exFs_fst {ns : List Str} {vs : List V} {m : Str} (h : vs.length = ns.length) : (exFs ns vs m).map (·.1) = ns ++ [("code" : Str)] := by
  unfold exFs
  rw [List.map_append, List.map_fst_zip (by omega)]
  rfl
theorem exFs_snd {ns : List Str} {vs : List V} {m : Str} (h : vs.length = ns.length) : (exFs ns vs m).map (·.2) = vs ++ [V.str m] := by
  unfold exFs
  rw [List.map_append, List.map_snd_zip (by omega)]
  rfl
theorem exFs_reps {K : PySem.W.Frag} {Hf : Hp} {ns : List Str} {vs : List V} {l : List D} {m : Str} (r : Reps K Hf l vs) (h : l.length = ns.length) : Reps K Hf (l ++ [.str m]) ((exFs ns vs m).map (·.2)) := by
  rw [exFs_snd (by rw [r.len]; exact h)]
  exact Reps.app r (Reps.one (by simp only [Rep]))

section
variable {X : Cx} {W : WX} {pins : List (Addr × Obj)} {σ : St} {H : Hp} {s : Shared}
theorem md_of (I : Inv X pins σ H s) : DX.Md X.K X.mg s.heap := (show DX.Md X.K X.mg X.base from ⟨I.mod.kin, I.mod.glob, I.mod.blt, I.mod.nolimit⟩).keeps I.bk
theorem xd_ok {P : Program} {w : World} {H : Hp} {h : Heap} {dx : Addr} {fs : List (Str × V)} {mA : Str → Option Value} (hn : h.Ns1 dx mA) (r : ∀ f, RelO (fs.lookup f) (mA f)) : ObjOk P w H h dx (.xd fs) := ⟨mA, hn, r⟩
theorem xd_exo {fs : List (Str × V)} {e C : Addr} {d : Option Addr} : HO.xd fs ≠ exo e C d := fun z => by
  have z' : HO.xd fs = HO.ext _ := z
  cases z'
/-- a made exception: its dict alone, without it -/
theorem made_split {h' : Heap} {e C dx t1 tk' : Addr} {mA : Str → Option Value} {fs : List (Str × V)} (I : Inv X pins σ H s) (M : DX.Made s.heap h' e C dx t1 mA) (r : ∀ f, RelO (fs.lookup f) (mA f)) :
    ∃ G : Heap, Inv X pins σ (upd H dx (.xd fs)) { s with heap := G, toks := tk' } ∧ (∀ b o, G.get? b = some o → h'.get? b = some o) ∧ G.get? e = none ∧ H dx = none ∧ H e = none := by
  obtain ⟨G', g1, g2⟩ := restrict h' fun b => decide (b ≠ e)
  have gk : ∀ b, b ≠ e → G'.get? b = h'.get? b := fun b hb => g1 b (decide_eq_true hb)
  have ge : G'.get? e = none := g2 e (by simp)
  have old : ∀ b o, s.heap.get? b = some o → G'.get? b = some o := fun b o q => (gk b (Nat.ne_of_lt (Nat.lt_of_lt_of_le (Heap.lt_size q) M.new))).trans (M.keep b o q)
  have ob : ObjOk X.prog X.w (upd H dx (.xd fs)) G' dx (.xd fs) := xd_ok (M.ns.at fun o q => (gk dx M.dne).trans q) r
  refine ⟨G', I.laid (t' := tk') old M.big ob, fun b o q => ?_, ge, I.hok.fresh M.big, I.hok.fresh M.new⟩
  by_cases hb : b = e
  · rw [hb, ge] at q; cases q
  · exact (gk b hb).symm.trans q
theorem made_inv {h' : Heap} {e C dx t1 tk' : Addr} {mA : Str → Option Value} {fs : List (Str × V)} (I : Inv X pins σ H s) (M : DX.Made s.heap h' e C dx t1 mA) (r : ∀ f, RelO (fs.lookup f) (mA f)) :
    Inv X pins σ (upd (upd H dx (.xd fs)) e (exo e C (some dx))) { s with heap := h', toks := tk' } ∧ H dx = none ∧ H e = none := by
  obtain ⟨G, J, k, ge, n1, n2⟩ := made_split (tk' := tk') I M r
  exact ⟨J.laidN (t' := tk') k ge (by rw [upd_ne M.dne.symm]; exact n2) (exo_ok M.obj), n1, n2⟩

/-- C(e, ..) as a value -/
def dExc (x m : Str) (ns : List Str) (g : F (List D)) : F D := dB g fun l => dO (if l.length = ns.length then some (.exc x (ns ++ [("code" : Str)]) (l ++ [.str m])) else none)
variable {x m : Str} {ns : List Str} {g : F (List D)} {p pos : Pos} {e : Expr} {es : List Expr}
theorem exc_core {us : List Value} {vs : List V} {Hf : Hp} {Q : VK} {l : List D} (Z : ExKd X.prog X.w X.K X.mg x ns m) (hr : X.A.depth + 2 < recursionLimit) (I : Inv X pins σ H s) (r : Vals vs us) (hl : Reps X.K Hf l vs) (hn : l.length = ns.length) (sm : Same Hf H)
    (q : ∀ z H' Hf', Gr [] Hf H Hf' H' → Same Hf' H' → Rep X.K Hf' (.exc x (ns ++ [("code" : Str)]) (l ++ [.str m])) z → Q z H') : wpAny (model X.prog X.w) X.A (call (.ref (He.ga X.K x)) us) (EP X pins σ Q) X.xe s := by
  have hvl : vs.length = ns.length := by rw [hl.len]; exact hn
  refine wpAny_call (Z.made (md_of I) (by rw [← r.length]; exact hvl) (by omega) fun h' tk' e dx t1 tkM M => ?_)
  obtain ⟨J, n1, n2⟩ := made_inv (tk' := tk') (fs := exFs ns vs m) I M (relO_zip r)
  refine ⟨.ref e, _, J, rfl, ?_⟩
  have g1 : Gr [] Hf H (upd Hf dx (.xd (exFs ns vs m))) (upd H dx (.xd (exFs ns vs m))) := Gr.alloc n1 sm
  have s1 := Same.alloc (p := dx) (o := .xd (exFs ns vs m)) sm
  have ne2 : (upd H dx (.xd (exFs ns vs m))) e = none := by rw [upd_ne M.dne.symm]; exact n2
  have g2 := Gr.alloc (ρ := []) (o := exo e (He.ga X.K x) (some dx)) ne2 s1
  refine q _ _ _ ⟨g1.fz.trans g2.fz, fun a o h1 h2 => g2.keep a o (g1.keep a o h1 h2) h2, fun a o h1 h2 => g2.new a o (g1.keep a o h1 (by simp)) (g1.new a o h1 h2), fun a o h1 => ⟨_, g2.keep a o (g1.keep a o h1 (by simp)) (by simp)⟩⟩ (Same.alloc s1) ?_
  simp only [Rep]
  refine ⟨e, dx, exFs ns vs m, rfl, upd_same, by rw [upd_ne M.dne, upd_same], exFs_fst hvl, ?_⟩
  exact Reps.mono (g1.fz.trans g2.fz) (exFs_reps hl hn)
theorem de_exc (Z : ExKd X.prog X.w X.K X.mg x ns m) (hr : X.A.depth + 2 < recursionLimit) (hg : Gl X x) (ha : DA X W (e :: es) g) (hdb : (x == ("__debug__" : Str)) = false := by decide)
    (he : starEach (e :: es) X.env = (false, eval e X.env) :: starEach es X.env := by rfl) (hpl : (backTo pos (starEach es X.env)).any (·.1) = false := by rfl) : DE X W (.Call (.Name x p) (e :: es) [] pos) (dExc x m ns g) := by
  refine ⟨fun pins s σ H Q I ⟨B, σd, Hf, r, q⟩ => ?_⟩
  refine wpAny_Call_Name_kw (ld_glob I hg Z.gl ?_ hdb)
  refine PySem.W.callWith_K (h₀ := X.base) I.ok.mod.kin Z.kC (thn (ha.run pos pins s σ H _ I (tG_seq r q)) fun us s1 ⟨vs, H1, I1, r1, Hf1, s1d, l, e1, rs1, hl, p1⟩ => ⟨I1.kIn, ?_⟩) he hpl
  unfold dO at p1
  split at p1
  · rename_i d hd
    split at hd
    · rename_i hn
      cases hd
      exact exc_core Z hr I1 r1 hl hn rs1.sub fun z H' Hf' g sm hz => p1 z H' Hf' g.fz (rs1.grow g sm) hz
    · cases hd
  · exact p1.elim
theorem de_exc0 (Z : ExKd X.prog X.w X.K X.mg x [] m) (hr : X.A.depth + 2 < recursionLimit) (hg : Gl X x) (hdb : (x == ("__debug__" : Str)) = false := by decide) : DE X W (.Call (.Name x p) [] [] pos) (dExc x m [] (dP [])) := by
  refine ⟨fun pins s σ H Q I ⟨B, σd, Hf, r, q⟩ => ?_⟩
  refine wpAny_Call_Name_kw (ld_glob I hg Z.gl ?_ hdb)
  refine PySem.W.callWith_K0 I.kIn Z.kC ?_
  exact exc_core (l := []) Z hr I .nil Reps.nil rfl r.sub fun z H' Hf' g sm hz => q z H' Hf' g.fz (r.grow g sm) hz
end
end DL
/-! DL9: raise C(..); try .. except C as e: return ..; an exception's attributes. -/
namespace DL
open PySem L2

/-! ### raise -/
def gRaise (x m : Str) (ns : List Str) (g : F (List D)) : G := dB g fun l s => if l.length = ns.length then .exc s ⟨x, ns ++ [("code" : Str)], l ++ [.str m]⟩ else .stk
section
variable {X : Cx} {W : WX} {x m : Str} {ns : List Str} {g : F (List D)} {p pos pos' : Pos} {e : Expr} {es : List Expr}
def tMk (K : PySem.W.Frag) (x m : Str) (ns : List Str) (ta : TA) : St → Hp → XK → Prop := fun σ H Q => ta σ H fun vs H1 => vs.length = ns.length ∧ ∀ dx, H1 dx = none → Q (.ref (He.ga K x)) (some dx) (upd H1 dx (.xd (exFs ns vs m)))
theorem pmk_core {pins : List (Addr × Obj)} {σ : St} {H1 : Hp} {s1 : Shared} {Q : XK} {us : List Value} {vs : List V} (Z : ExKd X.prog X.w X.K X.mg x ns m) (hr : X.A.depth + 2 < recursionLimit) (I1 : Inv X pins σ H1 s1) (r1 : Vals vs us) (hn : vs.length = ns.length)
    (q1 : ∀ dx, H1 dx = none → Q (.ref (He.ga X.K x)) (some dx) (upd H1 dx (.xd (exFs ns vs m)))) : wpAny (model X.prog X.w) X.A (call (.ref (He.ga X.K x)) us) (MkP X pins σ Q) X.xe s1 := by
  refine wpAny_call (Z.made (md_of I1) (by rw [← r1.length]; exact hn) (by omega) fun h' tk' a dx t1 tkM M => ?_)
  obtain ⟨G, J, k, ge, n1, n2⟩ := made_split (tk' := tk') (fs := exFs ns vs m) I1 M (relO_zip r1)
  exact ⟨a, _, _, _, _, .ref (He.ga X.K x), some dx, rfl, J, k, ge, M.obj, ⟨rfl, rfl⟩, rfl, rfl, by rw [upd_ne M.dne.symm]; exact n2, rfl, I1.bare, raises_own Z.exC Z.tyC, q1 dx n1⟩
theorem pmk_exc {ta : TA} (Z : ExKd X.prog X.w X.K X.mg x ns m) (hr : X.A.depth + 2 < recursionLimit) (hg : Gl X x) (ha : PA X (e :: es) ta) (hdb : (x == ("__debug__" : Str)) = false := by decide)
    (he : starEach (e :: es) X.env = (false, eval e X.env) :: starEach es X.env := by rfl) (hpl : (backTo pos (starEach es X.env)).any (·.1) = false := by rfl) : PMk X (.Call (.Name x p) (e :: es) [] pos) (tMk X.K x m ns ta) := by
  intro pins s σ H Q I h
  refine wpAny_Call_Name_kw (ld_glob I hg Z.gl ?_ hdb)
  exact PySem.W.callWith_K (h₀ := X.base) I.ok.mod.kin Z.kC (thn (ha.run pos pins s σ H _ I h) fun us s1 ⟨vs, H1, I1, r1, hn, q1⟩ => ⟨I1.kIn, pmk_core Z hr I1 r1 hn q1⟩) he hpl
theorem pmk_exc0 (Z : ExKd X.prog X.w X.K X.mg x [] m) (hr : X.A.depth + 2 < recursionLimit) (hg : Gl X x) (hdb : (x == ("__debug__" : Str)) = false := by decide) : PMk X (.Call (.Name x p) [] [] pos) (tMk X.K x m [] tNil) := by
  intro pins s σ H Q I h
  refine wpAny_Call_Name_kw (ld_glob I hg Z.gl ?_ hdb)
  exact PySem.W.callWith_K0 I.kIn Z.kC (pmk_core Z hr I .nil h.1 h.2)
theorem raise_core {Hf1 H1 : Hp} {B : Bs} {σ : St} {s1 : SD} {l : List D} {vs : List V} {Z : Ends} (r1 : RS X.K B σ s1 Hf1 H1) (hl : Reps X.K Hf1 l vs)
    (p : PSt X.K B W Hf1 (if l.length = ns.length then .exc s1 ⟨x, ns ++ [("code" : Str)], l ++ [.str m]⟩ else .stk) Z) : vs.length = ns.length ∧ ∀ dx, H1 dx = none → W (.ref (He.ga X.K x)) (some dx) σ (upd H1 dx (.xd (exFs ns vs m))) := by
  split at p
  · rename_i hn
    have hvl : vs.length = ns.length := by rw [hl.len]; exact hn
    refine ⟨hvl, fun dx n => p dx σ _ _ (Gr.alloc (ρ := []) n r1.sub).fz (r1.alloc n) ⟨exFs ns vs m, upd_same, exFs_fst hvl, ?_⟩⟩
    exact Reps.mono (Gr.alloc (ρ := []) n r1.sub).fz (exFs_reps hl hn)
  · exact p.elim
theorem ds_raise (Z : ExKd X.prog X.w X.K X.mg x ns m) (hc : X.calm = true) (tk : Takes X W) (hr : X.A.depth + 2 < recursionLimit) (hg : Gl X x) (ha : DA X W (e :: es) g) (hdb : (x == ("__debug__" : Str)) = false := by decide)
    (he : starEach (e :: es) X.env = (false, eval e X.env) :: starEach es X.env := by rfl) (hpl : (backTo pos (starEach es X.env)).any (·.1) = false := by rfl) :
    DS X W (.Raise (some (.Call (.Name x p) (e :: es) [] pos)) none pos') (gRaise x m ns g) :=
  (ps_raise hc tk (pmk_exc Z hr hg ha hdb he hpl)).imp fun Z σ H ⟨B, σd, Hf, r, q⟩ => (st_seq r q).imp fun vs H1 ⟨Hf1, s1, l, e1, r1, hl, p1⟩ => raise_core r1 hl p1
theorem ds_raise0 (Z : ExKd X.prog X.w X.K X.mg x [] m) (hc : X.calm = true) (tk : Takes X W) (hr : X.A.depth + 2 < recursionLimit) (hg : Gl X x) (hdb : (x == ("__debug__" : Str)) = false := by decide) :
    DS X W (.Raise (some (.Call (.Name x p) [] [] pos)) none pos') (gRaise x m [] (dP [])) :=
  (ps_raise hc tk (pmk_exc0 Z hr hg hdb)).imp fun Z σ H ⟨B, σd, Hf, r, q⟩ => raise_core (l := []) (vs := []) r Reps.nil q

/-! ### e.f, e an exception at hand -/
theorem lookup_ix : ∀ {fs : List (Str × V)} {f : Str} {i : Nat}, (fs.map (·.1)).idxOf? f = some i → ∃ v, (fs.map (·.2))[i]? = some v ∧ fs.lookup f = some v
  | [], f, i, h => by simp at h
  | (n, v) :: fs, f, i, h => by
    simp only [List.map_cons, List.idxOf?_cons] at h
    split at h
    · rename_i hn
      cases h
      have e : (f == n) = true := by rw [beq_iff_eq] at hn ⊢; exact hn.symm
      exact ⟨v, rfl, by simp only [List.lookup, e]⟩
    · rename_i hn
      obtain ⟨j, hj, rfl⟩ := Option.map_eq_some_iff.mp h
      obtain ⟨u, h1, h2⟩ := lookup_ix hj
      have e : (f == n) = false := by
        rw [Bool.eq_false_iff]
        intro z
        rw [beq_iff_eq] at z
        exact hn (by rw [z]; simp)
      exact ⟨u, by simpa using h1, by simp only [List.lookup, e]; exact h2⟩
/-- the attribute of that name -/
def atD (ns : List Str) (l : List D) (f : Str) : Option D := (ns.idxOf? f).bind fun i => l[i]?
def dFld (xs : List Str) (f : Str) (g : F D) : F D := dB g fun d => match d with
  | .exc c ns l => dO (if xs.contains c = true then atD ns l f else none)
  | _ => fun _ => .stk
/-- a class whose exceptions' attributes are read -/
def XfK (K : PySem.W.Frag) (f : Str) (x : Str) : Prop := XfC K (He.ga K x) ∧ PySem.W.findIn K (.ref (He.ga K x)) f = some none
theorem exc_attr {pins : List (Addr × Obj)} {σ : St} {H : Hp} {s : Shared} {Q : Value → Shared → Prop} {E : Value → Shared → Prop} {A : Around} {a C dd : Addr} {f : Str} {fs : List (Str × V)} {v : V} {oe : Obj} {vs : Array Value} {b : Bool} (I : Inv X pins σ H s) (T : XfC X.K C) (hno : PySem.W.findIn X.K (.ref C) f = some none)
    (ha : s.heap.get? a = some oe) (hz : Zc (.ref C) (some dd) oe) (hd : oe.data = .fields vs) (ea : H dd = some (.xd fs)) (l : fs.lookup f = some v) (q : ∀ u, RelV v u → Q u { s with toks := s.toks + 1 }) : wpAny (model X.prog X.w) A (getAttr (.ref a) f b) Q E s := by
  have hx : ObjOk X.prog X.w H s.heap dd (.xd fs) := I.hok dd _ ea
  obtain ⟨mA, hns, hr⟩ := hx
  obtain ⟨od, ho, hl⟩ := lookIn_ns hns
  obtain ⟨u, hu, ru⟩ := RelO.some_of (v := v) (o := mA f) (by rw [← l]; exact hr f)
  have J : PySem.W.InstAt s.heap a oe C (some od) := ⟨ha, hz.1, by unfold PySem.W.notCls; rw [hd] <;> rfl, by rw [hz.2]; exact ho⟩
  exact HandSPX.exc_get I.kIn J T.ga T.gg T.exC (PySem.W.findObj_own T.hdC hno rfl (by rw [hl, hu])) (handed_of ru) (q u ru)
theorem de_fld {xs : List Str} {o : Expr} {fo : F D} {f : Str} (T : ∀ x ∈ xs, XfK X.K f x) (ho : DE X W o fo) (hb : attributeBase o f X.env (eval o X.env) = eval o X.env := by rfl) : DE X W (.Attribute o f pos) (dFld xs f fo) := by
  refine ⟨fun pins s σ H Q I ⟨B, σd, Hf, r, q⟩ => ?_⟩
  refine attr_of hb (thn (ho.run pins s σ H _ I (tG_seq r q)) fun u s1 ⟨v, H1, I1, rv, Hf1, s1d, d, e1, r1, hd, p1⟩ => ?_)
  cases d with
  | exc c ns l =>
    simp only [Rep] at hd
    obtain ⟨a, dx, fs, rfl, h1, h2, h3, h4⟩ := hd
    obtain rfl : u = Value.ref a := rv
    have p1 : PO X.K B σ W (rD X.K) Hf1 (dO (if xs.contains c = true then atD ns l f else none) s1d) Q := p1
    unfold dO at p1
    split at p1
    · rename_i d0 e0
      split at e0
      · rename_i hc
        unfold atD at e0
        obtain ⟨i, ei, el⟩ := Option.bind_eq_some_iff.mp e0
        rw [← h3] at ei
        obtain ⟨w, w1, w2⟩ := lookup_ix ei
        obtain ⟨w', w3, w4⟩ := h4.get el
        rw [w1] at w3
        cases w3
        obtain ⟨t1, hx⟩ := exo_at I1.hok (r1.sub _ _ h1)
        obtain ⟨t1', t2'⟩ := T c (by simpa using hc)
        exact exc_attr I1 t1' t2' hx ⟨rfl, rfl⟩ rfl (r1.sub _ _ h2) w2 fun u ru => ⟨w, H1, I1.tok _, ru, p1.done r1 w4⟩
      · cases e0
    · exact p1.elim
  | _ => exact p1.elim
end
end DL
/-! DL10: try: body, several clauses 'except C as e: return ..'. -/
namespace L2
open PySem PySem.Spec PyProof.Rows
/-- what the clauses wish, one after the other; each has a slot for its name -/
def wManyA (K : PySem.W.Frag) (Wout : WX) (D : Ends) : List (Value × Nat × (Addr → Value → Option Addr → TS)) → WX
  | [] => Wout
  | q :: r => fun cls d σ H => ∃ b, PySem.W.exmOne K cls q.1 = some b ∧
    (b = true → ∀ a, H a = none → q.2.2 a cls d { nx := fun σ' H' => D.nx (σ'.set q.2.1 none) H', rt := D.rt, bk := fun σ' H' => D.bk (σ'.set q.2.1 none) H', ct := fun σ' H' => D.ct (σ'.set q.2.1 none) H' } (σ.set q.2.1 (some (.ref a))) H) ∧
    (b = false → wManyA K Wout D r cls d σ H)
inductive HdsA (X : Cx) : List ExceptHandler → List (Value × Nat × (Addr → Value → Option Addr → TS)) → Prop
  | nil : HdsA X [] []
  | cons {x n : Str} {c : Value} {i : Nat} {ts : Addr → Value → Option Addr → TS} {b₀ : Stmt} {suite : List Stmt} {np pos' : Pos} {hds : List ExceptHandler} {l : List (Value × Nat × (Addr → Value → Option Addr → TS))} (hc : Names X x c) (hi : X.N[i]? = some n) (hln : X.env.kindOf n = some .local)
      (hsu : ∀ (a : Addr) (oe : Obj) (cls : Value) (d : Option Addr) (pn : List (Addr × Obj)), Zc cls d oe → (∃ vs, oe.data = .fields vs) → PSs (X.suite a ((a, oe) :: pn)) (b₀ :: suite) (ts a cls d)) (r : HdsA X hds l) :
      HdsA X (.ExceptHandler (some (.Name x np)) (some n) (b₀ :: suite) pos' :: hds) ((c, i, ts) :: l)
section
variable {X : Cx} {body : List Stmt} {h₀ : ExceptHandler} {hds : List ExceptHandler} {l : List (Value × Nat × (Addr → Value → Option Addr → TS))} {pos : Pos} {tb : WX → TS} {Wout : WX}
theorem ps_try_manyA (hs : X.stack = X.env :: X.outer) (hf : X.env.frame = some X.env.locals) (hN : X.N.Nodup) (tk : Takes X Wout)
    (hb : ∀ (W : WX) (pn : List (Addr × Obj)) (xe : Value → Shared → Prop), Takes (X.tr pn xe) W → PassesOwn (model X.prog X.w) X.A X.env xe → PSs (X.tr pn xe) body (tb W))
    (hh : HdsA X (h₀ :: hds) l) : PS X (.Try body (h₀ :: hds) [] [] pos) (fun D σ H => tb (wManyA X.K Wout D l) D σ H) := by
  refine ⟨fun pins s σ H D I h => ?_⟩
  have ok := I.ok
  have hfr : X.A.frames = some (X.env :: X.outer) := by rw [ok.frames, hs]
  refine wpAny_Try_except ?_
  refine wpAny_mono ((hb (wManyA X.K Wout D l) (X.pn ++ pins) (fun e s₁ => wpAny (model X.prog X.w) X.A (noteFrame e X.env) (fun _ s₂ => wpAny (model X.prog X.w) X.A (setFlight e none) (fun _ s₃ =>
    wpAny (model X.prog X.w) X.A (handleBy e X.env (h₀ :: hds)) (SP X pins D) X.xe s₃) X.xe s₂) X.xe s₁) (fun u s' xx => ?_) PassesOwn.looking).run [] s σ H D (I.toTry _) h) (fun f s1 hsp => ?_) (fun e s1 he => he)
  · obtain ⟨a, B, sI, pins', σ', H', cls, d, rfl, J', nb, up, sky, na, os, ag, w⟩ := xx
    have J : Inv X pins σ' H' sI := J'.ofTry ok
    have sky' : Sky B (X.env :: X.outer) a (Zc cls d) X.env.locals s'.heap := by rw [← hs]; exact sky
    show wpAny (model X.prog X.w) X.A (noteFrame (.ref a) X.env) _ _ _
    refine Sky.land Zc.steady hfr hf sky' fun h3 fl3 up3 => ?_
    have J3 : Inv X pins σ' H' { s' with heap := h3 } := J.landed nb fl3.1 (up.trans up3) os ag
    obtain ⟨oe3, vs3, he3, hz3, hd3⟩ := fl3.there
    have nfr : a ∉ frs (X.env :: X.outer) := fun hm => by
      obtain ⟨_, o', e', hnf⟩ := fl3.2.2.1.mem hm
      rw [he3] at e'; cases e'
      exact hnf _ hd3
    have nL : a ≠ X.env.locals := fun z => nfr (List.mem_filterMap.mpr ⟨X.env, List.mem_cons_self, by rw [hf, z]⟩)
    have nF : a ∉ X.fs := fun hm => by
      obtain ⟨e, he, q⟩ := List.mem_filterMap.mp hm
      exact nfr (List.mem_filterMap.mpr ⟨e, List.mem_cons_of_mem _ he, q⟩)
    have S3 := J3.suite he3 hd3 na nL nF
    have go : ∀ {hds' : List ExceptHandler} {l' : List (Value × Nat × (Addr → Value → Option Addr → TS))}, HdsA X hds' l' → wManyA X.K Wout D l' cls d σ' H' →
        wpAny (model X.prog X.w) X.A (handleBy (.ref a) X.env hds') (SP X pins D) X.xe { s' with heap := h3 } := by
      intro hds' l' hk
      induction hk with
      | nil =>
        intro w
        refine wpAny_handleBy_nil ?_
        obtain ⟨k1, k2, k3, oe, vs, T, oT, ts', he, hz, hd, h1, hr⟩ := id fl3
        unfold PySem.passOn
        refine wpAny_bind (wpAny_field he hd h1 ?_)
        rw [if_neg (show ¬ ((Value.ref T == Value.none) = true) from by simp)]
        have fin : wpAny (model X.prog X.w) X.A (setFlight (.ref a) X.env.frame) (fun _ s4 => wpAny (model X.prog X.w) X.A (throw (.ref a) : Sem Flow) (SP X pins D) X.xe s4) X.xe { s' with heap := h3 } := by
          rw [hf]
          refine HandSPX.setFlight_upZ fl3 fun h4 hh4 up4 => wpAny_throw (tk _ _ ?_)
          exact ⟨a, B, sI, pins, σ', H', cls, d, rfl, J, nb, (up.trans up3).trans up4, .inr (.inr (by rw [hs]; exact hh4)), na, os, ag, w⟩
        first
          | exact wpAny_bind (wpAny_pure (wpAny_bind fin))
          | exact wpAny_bind fin
      | @cons x n c i ts b₀ suite np pos' hds2 l2 hc hi hln hsu r ih =>
        intro w
        obtain ⟨b, hb1, hyes, hno⟩ := w
        refine wpAny_handleBy_cons (codeAny_handlers_test ?_) (by intro q; cases q)
        have LT : PySem.W.Looks (model X.prog X.w) h3 (typeOf (.ref a)) cls := fun A Q E s k q => wpAny_typeOf_ref (k _ _ he3) (by rw [hz3.1]; exact q)
        have LM := PySem.W.exm_one (M := model X.prog X.w) (J3.kIn) LT hb1
        have test : ∀ {Q : Value → Shared → Prop} {E : Value → Shared → Prop}, Q c { s' with heap := h3 } → wpAny (model X.prog X.w) (X.A.mark (some (.ref a))) (eval (.Name x np) X.env) Q E { s' with heap := h3 } := fun {Q E} q => by
          obtain ⟨hg, hdbg, hm | ⟨hm, hv, hnn⟩⟩ := hc
          · exact ld_glob (X := X.suite a ((a, oe3) :: (X.pn ++ pins))) S3 hg hm q hdbg
          · exact ld_blt (X := X.suite a ((a, oe3) :: (X.pn ++ pins))) S3 hg hm hv q hnn hdbg
        refine test (LM.here ?_)
        cases b with
        | true =>
          refine codeAny_handlers_suite_as ?_
          refine HandSPX.lands_againZ fl3 fun h4 fl4 up4 => ?_
          have J4 : Inv X pins σ' H' { s' with heap := h4 } := J.landed nb fl4.1 ((up.trans up3).trans up4) os ag
          obtain ⟨oe4, vs4, he4, hz4, hd4⟩ := fl4.there
          have S4 := J4.suite he4 hd4 na nL nF
          refine store_ok (X := X.suite a ((a, oe4) :: (X.pn ++ pins))) (v := .ref a) S4 hN hi (.inl hln) rfl (fun s5 S5 => ?_) (.inr hln)
          refine wpAny_mono ((hsu a oe4 cls d (X.pn ++ pins) hz4 ⟨_, hd4⟩).run [] s5 _ H' _ S5 (hyes rfl a na)) (fun f s6 hsp => ?_) (fun _ _ z => False.elim z)
          have end_ : ∀ {σ6 : St} {H6 : Hp} {Q : Shared → Prop}, Inv (X.suite a ((a, oe4) :: (X.pn ++ pins))) [] σ6 H6 s6 → (∀ s7, Inv X pins (σ6.set i none) H6 s7 → Q s7) →
              wpAny (model X.prog X.w) X.A (do bindName X.env n .none; unbindBehindTheSuite X.env n pos') (fun _ s7 => Q s7) X.xe s6 := fun {σ6 H6 Q} S6 hq => gone_ok (S6.unsuite ok) hN hi hln hq
          cases f with
          | next => obtain ⟨σ6, H6, S6, q6⟩ := hsp; exact end_ S6 fun s7 J7 => ⟨_, _, J7, q6⟩
          | brk => obtain ⟨σ6, H6, S6, q6⟩ := hsp; exact end_ S6 fun s7 J7 => ⟨_, _, J7, q6⟩
          | cont => obtain ⟨σ6, H6, S6, q6⟩ := hsp; exact end_ S6 fun s7 J7 => ⟨_, _, J7, q6⟩
          | ret u => obtain ⟨v6, σ6, H6, S6, r6, q6⟩ := hsp; exact end_ S6 fun s7 J7 => ⟨_, _, _, J7, r6, q6⟩
        | false =>
          show wpAny _ X.A (handleBy (.ref a) X.env hds2) _ _ _
          exact ih (hno rfl)
    exact go hh w
  · cases f with
    | next => obtain ⟨σ', H', J', q⟩ := hsp; exact wpAny_execs_nil ⟨σ', H', J'.ofTry ok, q⟩
    | brk => obtain ⟨σ', H', J', q⟩ := hsp; exact ⟨σ', H', J'.ofTry ok, q⟩
    | cont => obtain ⟨σ', H', J', q⟩ := hsp; exact ⟨σ', H', J'.ofTry ok, q⟩
    | ret u => obtain ⟨v, σ', H', J', r, q⟩ := hsp; exact ⟨v, σ', H', J'.ofTry ok, r, q⟩
end
end L2
/-! DL11: try: body, several clauses 'except C as e: return ..', by data. -/
namespace DL
open PySem L2

/-! ### in a clause's suite: slot i holds the exception at a, whose dict is at dd -/
def tMx (K : PySem.W.Frag) (W : WX) (a dd : Addr) (i : Nat) (ex : Exc) {α β : Type} (rep : Hp → α → β → Prop) (f : F α) : St → Hp → (β → Hp → Prop) → Prop := fun σ H Q =>
  σ[i]? = some (some (.ref a)) ∧ ∃ B σd Hf, RS K B σ σd Hf H ∧ ExcAt K Hf H ex dd ∧ PO K B σ W rep Hf (f σd) Q
abbrev DEx (X : Cx) (W : WX) (a dd : Addr) (i : Nat) (ex : Exc) (e : Expr) (f : F D) : Prop := PE X e (tMx X.K W a dd i ex (rD X.K) f)
abbrev DAx (X : Cx) (W : WX) (a dd : Addr) (i : Nat) (ex : Exc) (es : List Expr) (f : F (List D)) : Prop := PA X es (tMx X.K W a dd i ex (rDs X.K) f)
theorem ExcAt.mono {K : PySem.W.Frag} {Hf Hf' H H' : Hp} {e : Exc} {dx : Addr} (s : Same Hf Hf') (h : ExcAt K Hf H e dx) : ExcAt K Hf' H' e dx := by
  obtain ⟨fs, h1, h2, h3⟩ := h
  exact ⟨fs, s _ _ h1, h2, Reps.mono s h3⟩
section
variable {X : Cx} {W : WX} {a dd : Addr} {i : Nat} {ex : Exc} {pos : Pos}
theorem tMx_seq {K : PySem.W.Frag} {α β γ δ : Type} {rep : Hp → α → β → Prop} {rep' : Hp → γ → δ → Prop} {f : F α} {g : α → F γ} {Q : δ → Hp → Prop} {B : Bs} {σ : St} {σd : SD} {Hf H : Hp} (hi : σ[i]? = some (some (.ref a))) (r : RS K B σ σd Hf H) (he : ExcAt K Hf H ex dd)
    (h : PO K B σ W rep' Hf (dB f g σd) Q) :
    tMx K W a dd i ex rep f σ H (fun x H1 => ∃ Hf1 s1 b, Same Hf Hf1 ∧ RS K B σ s1 Hf1 H1 ∧ rep Hf1 b x ∧ PO K B σ W rep' Hf1 (g b s1) Q) := ⟨hi, B, σd, Hf, r, he, PO.seq h⟩
theorem dex_of {e : Expr} {f : F D} (h : DE X W e f) : DEx X W a dd i ex e f := h.imp fun σ H Q ⟨_, B, σd, Hf, r, _, p⟩ => ⟨B, σd, Hf, r, p⟩
theorem dax_nil : DAx X W a dd i ex [] (dP []) := pa_nil.imp fun σ H Q ⟨_, B, σd, Hf, r, _, p⟩ => p.done r Reps.nil
def dConsx (f : F D) (g : F (List D)) : F (List D) := dB f fun x => dB g fun l => dP (x :: l)
theorem dax_cons {e : Expr} {es : List Expr} {f : F D} {g : F (List D)} (h : DEx X W a dd i ex e f) (h2 : DAx X W a dd i ex es g) (hs : starEach (e :: es) X.env = (false, eval e X.env) :: starEach es X.env := by rfl) : DAx X W a dd i ex (e :: es) (dConsx f g) :=
  (pa_cons h h2 hs).imp fun σ H Q ⟨hi, B, σd, Hf, r, he, p⟩ => by
    obtain ⟨q1, B', σd', Hf', q2, q3, q4⟩ := tMx_seq hi r he p
    refine ⟨q1, B', σd', Hf', q2, q3, q4.imp fun x H1 ⟨Hf1, s1, d, e1, r1, hx, p1⟩ => ?_⟩
    obtain ⟨w1, B', σd', Hf', w2, w3, w4⟩ := tMx_seq hi r1 (he.mono (H' := H1) e1) p1
    exact ⟨w1, B', σd', Hf', w2, w3, w4.imp fun y H2 ⟨Hf2, s2, l, e2, r2, hy, p2⟩ => p2.done r2 (Reps.cons (Rep.mono e2 hx) hy)⟩
end
/-- what slot i's exception tells -/
def dXf (ex : Exc) (f : Str) : F D := dO (atD ex.ns ex.vs f)
section
variable {X : Cx} {W : WX} {a dd : Addr} {i : Nat} {ex : Exc} {pos np : Pos}
theorem dex_fld {oe : Obj} {pn : List (Addr × Obj)} {f n : Str} (T : XfK X.K f ex.c) (hz : Zc (.ref (He.ga X.K ex.c)) (some dd) oe) (hf : ∃ vs, oe.data = .fields vs) (hn : PE (X.suite a ((a, oe) :: pn)) (.Name n np) (tVar i))
    (hb : attributeBase (.Name n np) f X.env (eval (.Name n np) X.env) = eval (.Name n np) X.env := by rfl) : DEx (X.suite a ((a, oe) :: pn)) W a dd i ex (.Attribute (.Name n np) f pos) (dXf ex f) :=
  (pe_xf (X := X) T.1 T.2 hz hf hn hb).imp fun σ H Q ⟨hi, B, σd, Hf, r, he, p⟩ => by
    unfold dXf dO at p
    split at p
    · rename_i d0 e0
      unfold atD at e0
      obtain ⟨j, ei, el⟩ := Option.bind_eq_some_iff.mp e0
      obtain ⟨fs, h1, h3, h4⟩ := he
      rw [← h3] at ei
      obtain ⟨w, w1, w2⟩ := lookup_ix ei
      obtain ⟨w', w3, w4⟩ := h4.get el
      rw [w1] at w3
      cases w3
      exact ⟨_, hi, rfl, rfl, dd, fs, w, rfl, r.sub _ _ h1, w2, p.done r w4⟩
    · exact p.elim
theorem dex_tup {es : List Expr} {f : F (List D)} {k : Nat} (h : DAx X W a dd i ex es f) : DEx X W a dd i ex (.Tuple es k pos) (dTup f) :=
  (pe_tup h).imp fun σ H Q ⟨hi, B, σd, Hf, r, he, p⟩ => by
    obtain ⟨q1, B', σd', Hf', q2, q3, q4⟩ := tMx_seq hi r he p
    refine ⟨q1, B', σd', Hf', q2, q3, q4.imp fun xs H1 ⟨Hf1, s1, l, e1, r1, hx, p1⟩ => ?_⟩
    split at p1
    · rename_i hl
      refine ⟨by rw [hx.len]; exact okLen_ok hl, fun q n => ?_⟩
      have s : Same Hf1 (upd Hf1 q (.tup xs)) := (Gr.alloc (ρ := []) n r1.sub).fz
      refine p1 _ _ _ s (r1.alloc n) ?_
      simp only [rD, Rep]
      exact ⟨q, xs, rfl, SqT.of upd_same, Reps.mono s hx⟩
    · exact p1.elim
end

/-! ### the clauses -/
abbrev Hd : Type := Str × Nat × (Exc → F D)
def pickH (isa : Str → Str → Bool) (e : Exc) (s : SD) : List Hd → R SD Out
  | [] => .exc s e
  | q :: r => if isa e.c q.1 = true then (if q.2.1 < s.length then (match q.2.2 e (s.set q.2.1 .un) with
    | .ok s' d => .ok (s'.set q.2.1 .un) (.rt (.fz d))
    | _ => .stk) else .stk) else pickH isa e s r
def gTry (exs : List Str) (isa : Str → Str → Bool) (body : G) (hs : List Hd) : G := fun s => match body s with
  | .exc s' e => if exs.contains e.c = true then pickH isa e s' hs else .stk
  | r => r
def W00 : WX := fun _ _ _ _ => False
/-- a suite 'return e' -/
def tSx (K : PySem.W.Frag) (exs : List Str) (i : Nat) (g : Exc → F D) (a : Addr) (cls : Value) (d : Option Addr) : TS := fun Z σ H => ∃ ex dd, ex.c ∈ exs ∧ cls = .ref (He.ga K ex.c) ∧ d = some dd ∧ tMx K W00 a dd i ex (rD K) (g ex) σ H fun v H' => Z.rt v H'
inductive HdsD (X : Cx) (exs : List Str) (isa : Str → Str → Bool) : List ExceptHandler → List Hd → Prop
  | nil : HdsD X exs isa [] []
  | cons {x n : Str} {i : Nat} {g : Exc → F D} {e : Expr} {np rp pos' : Pos} {hds : List ExceptHandler} {l : List Hd} (hc : Names X x (.ref (He.ga X.K x))) (hi : X.N[i]? = some n) (hln : X.env.kindOf n = some .local)
      (hx : ∀ y ∈ exs, PySem.W.exmOne X.K (.ref (He.ga X.K y)) (.ref (He.ga X.K x)) = some (isa y x))
      (hsu : ∀ (a : Addr) (oe : Obj) (pn : List (Addr × Obj)) (ex : Exc) (dd : Addr), ex.c ∈ exs → Zc (.ref (He.ga X.K ex.c)) (some dd) oe → (∃ vs, oe.data = .fields vs) → DEx (X.suite a ((a, oe) :: pn)) W00 a dd i ex e (g ex)) (r : HdsD X exs isa hds l) :
      HdsD X exs isa (.ExceptHandler (some (.Name x np)) (some n) [.Return (some e) rp] pos' :: hds) ((x, i, g) :: l)
section
variable {X : Cx} {exs : List Str} {isa : Str → Str → Bool}
theorem HdsD.toA {hds : List ExceptHandler} {l : List Hd} (h : HdsD X exs isa hds l) : HdsA X hds (l.map fun q => (.ref (He.ga X.K q.1), q.2.1, tSx X.K exs q.2.1 q.2.2)) := by
  induction h with
  | nil => exact .nil
  | @cons x n i g e np rp pos' hds l hc hi hln hx hsu r ih =>
    refine .cons hc hi hln (fun a oe cls d pn hz hd => ?_) ih
    refine ⟨fun pins s σ H Z I ⟨ex, dd, hm, e1, e2, q⟩ => ?_⟩
    subst e1 e2
    exact (pss_one (ps_ret (hsu a oe pn ex dd hm hz hd))).run pins s σ H Z I q
theorem HdsD.isas {hds : List ExceptHandler} {l : List Hd} (h : HdsD X exs isa hds l) : ∀ q ∈ l, ∀ y ∈ exs, PySem.W.exmOne X.K (.ref (He.ga X.K y)) (.ref (He.ga X.K q.1)) = some (isa y q.1) := by
  induction h with
  | nil => intro q hq; cases hq
  | cons hc hi hln hx hsu r ih =>
    intro q hq
    rcases List.mem_cons.mp hq with rfl | hq
    · exact hx
    · exact ih q hq
theorem pick_ok {K : PySem.W.Frag} {Wout : WX} {Z : Ends} {B : Bs} {e : Exc} {s : SD} {dx : Addr} {σ : St} {H Hf : Hp} (he : e.c ∈ exs) (r : RS K B σ s Hf H) (hx : ExcAt K Hf H e dx) : ∀ {l : List Hd}, (∀ q ∈ l, ∀ y ∈ exs, PySem.W.exmOne K (.ref (He.ga K y)) (.ref (He.ga K q.1)) = some (isa y q.1)) →
    PSt K B Wout Hf (pickH isa e s l) Z → wManyA K Wout Z (l.map fun q => (.ref (He.ga K q.1), q.2.1, tSx K exs q.2.1 q.2.2)) (.ref (He.ga K e.c)) (some dx) σ H
  | [], _, p => p dx σ H Hf (Same.refl _) r hx
  | q :: l, hi, p => by
    refine ⟨isa e.c q.1, hi q (List.mem_cons_self ..) _ he, fun hb a na => ?_, fun hb => ?_⟩
    · rw [pickH, if_pos hb] at p
      split at p
      · rename_i hlt
        refine ⟨e, dx, he, rfl, rfl, ?_, B, s.set q.2.1 .un, Hf, r.set_un _ _, hx, ?_⟩
        · rw [List.getElem?_set_self (by rw [r.len]; exact hlt)]
        · revert p
          cases q.2.2 e (s.set q.2.1 .un) with
          | ok s' d => exact fun p v H' Hf' sm r' hv => p v _ H' Hf' sm (r'.set_un q.2.1 none) hv
          | exc s' e' => exact fun p => p.elim
          | stk => exact fun p => p.elim
      · exact p.elim
    · rw [pickH, if_neg (by rw [hb]; exact Bool.false_ne_true)] at p
      exact pick_ok he r hx (fun q hq => hi q (List.mem_cons_of_mem _ hq)) p
/-- try: body, except C as n: return e, .. -/
theorem ds_try {Wout : WX} {body : List Stmt} {gb : G} {h₀ : ExceptHandler} {hds : List ExceptHandler} {l : List Hd} {pos : Pos} (hs : X.stack = X.env :: X.outer) (hf : X.env.frame = some X.env.locals) (hN : X.N.Nodup) (tk : Takes X Wout)
    (hb : ∀ (W : WX) (pn : List (Addr × Obj)) (xe : Value → Shared → Prop), Takes (X.tr pn xe) W → DSs (X.tr pn xe) W body gb) (hh : HdsD X exs isa (h₀ :: hds) l) : DS X Wout (.Try body (h₀ :: hds) [] [] pos) (gTry exs isa gb l) :=
  (ps_try_manyA (tb := fun W => tS X.K W gb) hs hf hN tk (fun W pn xe t _ => hb W pn xe t) hh.toA).imp fun Z σ H ⟨B, σd, Hf, r, p⟩ => by
    refine ⟨B, σd, Hf, r, ?_⟩
    unfold gTry at p
    cases e : gb σd with
    | ok s o =>
      rw [e] at p
      cases o with
      | rt q => cases q <;> exact p
      | nx => exact p
      | bk => exact p
      | ct => exact p
    | exc s x =>
      rw [e] at p
      dsimp only at p
      split at p
      · rename_i hc
        exact fun dx σ' H' Hf' sm r' hx => pick_ok (by simpa using hc) r' hx hh.isas (PSt.mono p sm)
      · exact p.elim
    | stk => rw [e] at p; exact p
end
end DL
/-! DL12: classes as data, isinstance; -x; a < b < c; x[i] = e of a slot's list; f(). -/
namespace DL
open PySem L2

/-! ### classes -/
inductive Cl where
  | ty (n : String) | own (x : Str)
deriving DecidableEq
def Cl.v (K : PySem.W.Frag) : Cl → Value
  | .ty n => .type n
  | .own x => .ref (He.ga K x)
/-- the class of data -/
def D.cl : D → Option Cl
  | .non => some (.ty "NoneType")
  | .bl _ => some (.ty "bool")
  | .int _ => some (.ty "int")
  | .str _ => some (.ty "str")
  | .tup _ => some (.ty "tuple")
  | .lst _ => some (.ty "list")
  | .dct _ _ => some (.ty "dict")
  | .obj c _ _ => some (.own c)
  | .exc c _ _ => some (.own c)
  | _ => none
/-- the class that data stands for -/
def D.asCl : D → Option Cl
  | .ty n => some (.ty n)
  | .glo x => some (.own x)
  | _ => none
/-- tb tells isinstance -/
def KitT (K : PySem.W.Frag) (tb : Cl → Cl → Option Bool) : Prop := ∀ t c b, tb t c = some b → PySem.W.kitOne K (t.v K) (c.v K) = some b
def anyT (tb : Cl → Cl → Option Bool) (t : Cl) : List D → Option Bool
  | [] => some false
  | d :: r => match d.asCl.bind (tb t) with
    | some true => some true
    | some false => anyT tb t r
    | none => none
def okCl (cls : List Str) : Cl → Bool
  | .own x => cls.contains x
  | _ => true
def askT (tb : Cl → Cl → Option Bool) (t : Cl) (c : D) : Option Bool := match c with
  | .tup l => anyT tb t l
  | c => c.asCl.bind (tb t)
def isiT (tb : Cl → Cl → Option Bool) (cls : List Str) (d : D) (c : D) : Option Bool := d.cl.bind fun t => if okCl cls t = true then askT tb t c else none
def bIsi (tb : Cl → Cl → Option Bool) (cls : List Str) : List D → Option D
  | [d, c] => (isiT tb cls d c).map D.bl
  | _ => none
def bIsiN (tb : Cl → Cl → Option Bool) (cls : List Str) (l : List D) : Option D := match l with
  | .obj _ _ _ :: _ => none
  | l => bIsi tb cls l
/-- a class of exceptions of which isinstance is asked -/
structure IsX (K : PySem.W.Frag) (C : Addr) : Prop where
  cl : (PySem.W.clsIn K C).isSome = true
  ga : PySem.W.findIn K (.ref C) "__getattribute__" = some (some (.builtin "BaseException.__getattribute__"))
  gg : PySem.W.findIn K (.ref C) "__getattr__" = some none
  ex : PySem.W.subIn K (.ref C) (.type "BaseException") = some true
  ha : PySem.W.findIn K (.ref C) "__class__" = some (some (.builtin "object.__class__"))
  hn : PySem.W.specialIn K (.builtin "object.__class__") "__get__" = some (some (.builtin "getset_descriptor.__get__"))
  tk : PySem.W.takesIn K (.builtin "object.__class__") = some true
  ob : PySem.W.mroIn K C (.type "object") = some true
section
variable {X : Cx} {W : WX}
theorem asCl_eq {K : PySem.W.Frag} {Hf : Hp} {d : D} {c : Cl} {v : V} {u : Value} (h : d.asCl = some c) (hv : Rep K Hf d v) (r : RelV v u) : u = c.v K := by
  cases d <;> simp only [D.asCl, reduceCtorEq] at h
  · cases h
    simp only [Rep] at hv
    subst hv
    exact r
  · cases h
    simp only [Rep] at hv
    subst hv
    exact r
theorem kit_ofD {cls : List Str} (hX : ∀ x ∈ cls, IsX X.K (He.ga X.K x)) {pins : List (Addr × Obj)} {σ : St} {H Hf : Hp} {s : Shared} {d : D} {v : V} {u : Value} {t : Cl} (I : Inv X pins σ H s) (sm : Same Hf H) (hd : Rep X.K Hf d v) (r : RelV v u) (h : d.cl = some t)
    (ho : ∀ c ns l, d ≠ .obj c ns l) (hc : ∀ x, t = .own x → x ∈ cls) : ∃ P : Heap → Prop, PySem.W.KitX X.K u (t.v X.K) P ∧ P s.heap ∧ u ≠ .builtin "__main__.__loader__#opaque" := by
  cases d <;> simp only [D.cl, reduceCtorEq] at h
  · cases h; simp only [Rep] at hd; subst hd; exact kit_of I r (.base .non)
  · cases h; simp only [Rep] at hd; subst hd; exact kit_of I r (.base (.bl _))
  · cases h; simp only [Rep] at hd; subst hd; exact kit_of I r (.base (.int _))
  · cases h; simp only [Rep] at hd; subst hd; exact kit_of I r (.base (.str _))
  · cases h
    simp only [Rep] at hd
    obtain ⟨a, xs, rfl, h1, _⟩ := hd
    rcases h1 with (h1 | ⟨o, h1⟩) | ⟨o, its, n, h1, h2, h3, _⟩
    · exact kit_of I r (.base (.tup (sm _ _ h1)))
    · exact kit_of I r (.fTuple (sm _ _ h1))
    · exact kit_of I r (.kTuple h1 h2)
  · cases h
    simp only [Rep] at hd
    obtain ⟨a, xs, rfl, h1, _⟩ := hd
    exact kit_of I r (.base (.lst (sm _ _ h1)))
  · cases h
    simp only [Rep] at hd
    obtain ⟨a, xs, rfl, h1, _⟩ := hd
    exact kit_of I r (.base (.dK (sm _ _ h1)))
  · exact absurd rfl (ho _ _ _)
  · rename_i c ns l
    cases h
    simp only [Rep] at hd
    obtain ⟨a, dx, fs, rfl, h1, h2, _⟩ := hd
    cases (show u = Value.ref a from r)
    have T := hX c (hc c rfl)
    obtain ⟨t1, ha⟩ := exo_at I.hok (sm _ _ h1)
    obtain ⟨mA, hns, _⟩ := (show ObjOk X.prog X.w H s.heap dx (.xd fs) from I.hok dx _ (sm _ _ h2))
    obtain ⟨od, hod, _⟩ := lookIn_ns hns
    exact ⟨_, PySem.W.kitx_exc (od := some od) T.cl T.ga T.gg T.ex T.ha T.hn T.tk T.ob, ⟨ha, rfl, rfl, hod⟩, fun z => nomatch z⟩
theorem kitAny_of {tb : Cl → Cl → Option Bool} {K : PySem.W.Frag} (hT : KitT K tb) {Hf : Hp} {t : Cl} : ∀ {l : List D} {xs : List V} {us : List Value} {b : Bool}, Reps K Hf l xs → Vals xs us → anyT tb t l = some b → PySem.W.kitAny K (t.v K) us = some b
  | [], xs, us, b, hr, r, e => by
    simp only [Reps] at hr
    subst hr
    cases r
    cases e
    rfl
  | d :: l, xs, us, b, hr, r, e => by
    simp only [Reps] at hr
    obtain ⟨v, xs', rfl, h1, h2⟩ := hr
    cases r with
    | @cons _ u _ us' rv rt =>
      unfold anyT at e
      unfold PySem.W.kitAny
      cases ec : d.asCl with
      | none => rw [ec] at e; cases e
      | some c =>
        rw [ec, Option.bind_some] at e
        have eu := asCl_eq ec h1 rv
        subst eu
        cases et : tb t c with
        | none => rw [et] at e; cases e
        | some b' =>
          rw [et] at e
          rw [hT _ _ _ et]
          cases b' with
          | true => exact e
          | false => exact kitAny_of hT h2 rt e
theorem cd_isi {tb : Cl → Cl → Option Bool} {cls : List Str} (hT : KitT X.K tb) (hX : ∀ x ∈ cls, IsX X.K (He.ga X.K x)) : CallD X (.builtin "isinstance") (bIsiN tb cls) :=
by
  refine ⟨fun xs H Q => ∃ Hf ds d, Same Hf H ∧ Reps X.K Hf ds xs ∧ bIsiN tb cls ds = some d ∧ ∀ z H' Hf', Gr [] Hf H Hf' H' → Same Hf' H' → Rep X.K Hf' d z → Q z H', ?_, fun xs H Q Hf ds d sm hr e k => ⟨Hf, ds, d, sm, hr, e, k⟩⟩
  intro pins s σ H xs us Q I r ⟨Hf, ds, d, sm, hr, e, k⟩
  unfold bIsiN at e
  split at e
  · cases e
  · rename_i no
    unfold bIsi at e
    split at e
    · rename_i a c
      obtain ⟨b, eb, rfl⟩ := Option.map_eq_some_iff.mp e
      unfold isiT at eb
      obtain ⟨t, et, eb⟩ := Option.bind_eq_some_iff.mp eb
      split at eb
      · rename_i hc
        obtain ⟨x, y, rfl, h1, h2⟩ := reps2 hr
        obtain ⟨u1, u2, rfl, r1, r2⟩ := vals2 r
        obtain ⟨P, Z, p, hx⟩ := kit_ofD hX I sm h1 r1 et (fun c ns l z => no _ _ _ _ (by rw [z])) (fun x ex => by subst ex; simpa [okCl] using hc)
        have fin : ∀ tk, EP X pins σ Q (.bool b) { s with toks := tk } := fun tk => ⟨.bl b, H, I.tok tk, rfl, k _ _ Hf Gr.refl sm rep_mk_bl⟩
        unfold askT at eb
        split at eb
        · rename_i l
          simp only [Rep] at h2
          obtain ⟨tp, cs, rfl, hq, h3⟩ := h2
          cases (show u2 = Value.ref tp from r2)
          obtain ⟨its, rv, ⟨o, ho, hcl, n, hdt⟩, hz⟩ := I.tuple (Same.seqT sm hq)
          obtain ⟨oc, od, dt, sl⟩ := o
          simp only at hcl hdt
          subst hcl hdt
          exact PySem.W.kia_tup Z I.kIn p ho (kitAny_of hT h3 rv eb) hx fin
        · obtain ⟨c', ec, eb⟩ := Option.bind_eq_some_iff.mp eb
          have eu := asCl_eq ec h2 r2
          subst eu
          exact PySem.W.kia_one Z I.kIn p (hT _ _ _ eb) hx fin
      · cases eb
    · cases e
/-- a global's own class, a built-in type, as values -/
theorem de_glo {x : Str} {pos : Pos} (hg : Gl X x) (hm : X.mg x = some (.ref (He.ga X.K x))) (hd : (x == ("__debug__" : Str)) = false := by decide) : DE X W (.Name x pos) (dP (.glo x)) := de_of (pe_glob hg hm (v := .ref (He.ga X.K x)) rfl hd) fun _ => by simp only [Rep]
theorem de_typ {x : Str} {n : String} {pos : Pos} (hg : Gl X x) (hm : X.mg x = none) (hv : bootBuiltins x = some (.type n)) (hn : x ≠ "__name__" := by decide) (hd : (x == ("__debug__" : Str)) = false := by decide) : DE X W (.Name x pos) (dP (.ty n)) := de_of (pe_bltn hg hm hv (v := .ty n) rfl hn hd) fun _ => by simp only [Rep]

/-! ### -x -/
def dNeg (f : F D) : F D := dB f fun d => match d with
  | .int i => dP (.int (-i))
  | _ => fun _ => .stk
theorem de_neg {e : Expr} {f : F D} {pos : Pos} (h : DE X W e f) : DE X W (.UnaryOp .USub e pos) (dNeg f) := (pe_un un_neg h).imp fun σ H Q ⟨B, σd, Hf, r, p⟩ => (tG_seq r p).imp fun x H1 ⟨Hf1, s1, d, e1, r1, hx, p1⟩ => by
  cases d with
  | int i =>
    simp only [rD, Rep] at hx
    subst hx
    exact ⟨i, rfl, p1.done r1 (by simp only [rD, Rep])⟩
  | _ => exact p1.elim
/-! ### a < b < c -/
def dChn (h h' : D → D → Option D) (f g k : F D) : F D := dB f fun x => dB g fun y => dB (dO (h x y)) fun z => match z with
  | .bl true => dB k fun w => dO (h' y w)
  | .bl false => dP (.bl false)
  | _ => fun _ => .stk
theorem de_chain {op op' : CmpOp} {h h' : D → D → Option D} {a b c : Expr} {f g k : F D} {pos : Pos} (o : OpD X (compareOp op) h) (o' : OpD X (compareOp op') h') (ha : DE X W a f) (hb : DE X W b g) (hc : DE X W c k) (hm : lastMarks [op, op'] [b, c] = false := by with_unfolding_all rfl) : DE X W (.Compare a [op, op'] [b, c] pos) (dChn h h' f g k) :=
  (pe_chain o.rule o'.rule ha hb hc hm).imp fun σ H Q ⟨B, σd, Hf, r, p⟩ => (tG_seq r p).imp fun x H1 ⟨Hf1, s1, dx, e1, r1, hx, p1⟩ => (tG_seq r1 p1).imp fun y H2 ⟨Hf2, s2, dy, e2, r2, hy, p2⟩ => by
    unfold dB dO at p2
    cases eh : h dx dy with
    | none => rw [eh] at p2; exact p2.elim
    | some d =>
      rw [eh] at p2
      refine ⟨Hf2, dx, dy, d, r2.sub, Rep.mono e2 hx, hy, eh, fun z H' Hf' gg sm hz => ?_⟩
      have r3 := r2.grow gg sm
      cases d with
      | bl v =>
        simp only [Rep] at hz
        subst hz
        refine ⟨v, rfl, ?_⟩
        cases v with
        | false => exact (PO.mono p2 gg.fz).done r3 (by simp only [rD, Rep])
        | true =>
          refine (tG_seq r3 (PO.mono p2 gg.fz)).imp fun w H4 ⟨Hf4, s4, dw, e4, r4, hw, p4⟩ => ?_
          split at p4
          · rename_i d4 e4'
            exact ⟨Hf4, dy, dw, d4, r4.sub, Rep.mono (gg.fz.trans e4) hy, hw, e4', fun z H' Hf' g' sm' hz => p4 z H' Hf' g'.fz (r4.grow g' sm') hz⟩
          · exact p4.elim
      | _ => exact p2.elim

/-! ### x[i] = e, x a slot with a list -/
def gStI (i : Nat) (f g : F D) : G := dB f fun d s => match (s[i]?).bind Sl.cell with
  | none => .stk
  | some _ => dB g (fun k s => match (s[i]?).bind Sl.cell, k with
    | some (.lst l), .int j => (match ixN l.length j with
      | some n => .ok (putAll s [i] [.lst (l.set n d)]) .nx
      | none => .stk)
    | _, _ => .stk) s
theorem RS.put {K : PySem.W.Frag} {B : Bs} {σ : St} {s : SD} {Hf H : Hp} (r : RS K B σ s Hf H) {i : Nat} {t : Sl} {a : Addr} {l l' : List D} {xs' : List V} (es : s[i]? = some t) (ec : t.cell = some (.lst l)) (ea : σ[i]? = some (some (.ref a))) (hp : B.P a = none) (hc : Cell K (nOf B a) Hf H (.lst l) a) (hx : Reps K Hf l' xs') :
    RS K B σ (putAll s [i] [.lst l']) Hf (upd H a (.lst xs')) := by
  obtain ⟨h0, xs, h1, h2⟩ := hc
  refine r.called (ρ := [a]) (by simp) rfl (fun n b e => ?_) Gr.write (fun b u e => ?_) ⟨a, [], rfl, ⟨h0, xs', upd_same, hx⟩, rfl⟩
  · cases n with
    | zero => cases e; exact ⟨hp, i, t, _, rfl, ea, es, ec⟩
    | succ n => simp at e
  · have ne : b ≠ a := fun z => by rw [z, h0] at e; cases e
    rw [upd_ne ne]
    exact r.sub b u e
theorem ds_stI {o ix e : Expr} {i : Nat} {f g : F D} {pos pos' : Pos} (he : DE X W e f) (ho : PE X o (tVar i)) (hi : DE X W ix g)
    (ha : ∀ v, assign (.Subscript o ix pos') X.env v = (do
      let ov ← holding [v] (eval o X.env)
      let iv ← holding [v, ov] (eval ix X.env)
      standAt pos'
      holding [v, ov, iv] (setItem ov iv v)
      release [v, ov, iv] []) := by intro _; rfl)
    (hs : swapsWithSole [.Subscript o ix pos'] e pos.line X.env = pure false := by rfl) (hw : swappedStores [.Subscript o ix pos'] e X.env = pure none := by rfl) (h1 : (assignEach [.Subscript o ix pos'] X.env).map (·.2) = [assign (.Subscript o ix pos') X.env] := by rfl) :
    DS X W (.Assign [.Subscript o ix pos'] e pos) (gStI i f g) :=
  (ps_asg he (pg_sub ho hi set_list ha) hs hw h1).imp fun Z σ H ⟨B, σd, Hf, r, p⟩ => (st_seq r p).imp fun v H1 ⟨Hf1, s1, d, e1, r1, hx, p1⟩ => by
    split at p1
    · exact p1.elim
    · rename_i c ec
      obtain ⟨q, a1, _⟩ := r1.slotVal ec
      refine ⟨_, a1, (st_seq r1 p1).imp fun k H2 ⟨Hf2, s2, dk, e2, r2, hk, p2⟩ => ?_⟩
      split at p2
      · rename_i l j el
        split at p2
        · rename_i n en
          cases es : s2[i]? with
          | none => rw [es] at el; cases el
          | some t =>
            rw [es] at el
            obtain ⟨a, a2, hp, hc⟩ := r2.cellN es el
            rw [a1] at a2
            cases a2
            obtain ⟨h0, xs, h3, h4⟩ := id hc
            simp only [rD, Rep] at hk
            subst hk
            refine ⟨q, xs, j, n, rfl, rfl, h3, by rw [h4.len]; exact en, ?_⟩
            exact p2.nx (r2.put es el a1 hp hc (h4.set (Rep.mono e2 hx) n))
        · exact p2.elim
      · exact p2.elim
end
end DL
/-! DL13: f(). -/
namespace DL
open PySem L2
theorem dr_call0 {X : Cx} {W : WX} {k : Nat} {f : Addr} {fd : FuncData} {ps : List Str} {np : Nat} {fn : Fn} {x : Str} {p pos : Pos} (Fk : FnOk X.prog X.w X.K X.mg X.base (L2.CX X.prog X.w) k f fd ps (spD X.K np fn)) (hr : Room k X.A) (hg : Gl X x) (hm : X.mg x = some (.ref f)) (hk : PySem.W.keepIn X.K (.ref f) = true) (hb : Binds X.K fd ps []) (tk : Takes X W)
    (hdb : (x == ("__debug__" : Str)) = false := by decide) : DR X W (.Call (.Name x p) [] [] pos) (dCallR np fn aNil) := by
  refine ⟨fun pins s σ H Q I ⟨B, σd, Hf, r, q⟩ => ?_⟩
  refine wpAny_Call_Name_kw (ld_glob I hg hm ?_ hdb)
  exact PySem.W.callWith_K0 I.kIn hk (run_fnS Fk hr hb (passAt tk σ) I .nil (call_core (l := []) r rfl q))
end DL
/-! DH1: a Hook of one's own: defs, own exceptions with their __init__, any truths of the written part. -/
namespace DL
open PySem L2

/-- an own exception class: its name, its __init__'s text, the built-in class above -/
structure ExD where
  x : Str
  qual : Str
  params : Arguments
  body : List Stmt
  scope : Scope
  B : String
  newId : String
  initId : String
  tl : List Value
  fs : List Str
abbrev FnE : Type := Option (Str × Str × Arguments × FuncBody × Scope × Addr × List Str × Value × Addr)
def fiOf (K : PySem.W.Frag) (x : Str) : Addr := He.ma K (He.ga K x) "__init__"
def fnE (K : PySem.W.Frag) (x : Str) : FnE := match K.lookup (fiOf K x) with
  | some ⟨_, _, .func fd, _⟩ => some (fd.name, fd.qualname, fd.params, fd.body, fd.scope, fd.globals, fd.closure.map (·.1), fd.defaults, fd.builtins)
  | _ => none
def ExD.val (d : ExD) : FnE := some ("__init__", d.qual, d.params, .stmts d.body, d.scope, mainGlobals, ["__class__"], .none, builtinsNs)
def eqB {α : Type} [DecidableEq α] (a b : α) : Bool := decide (a = b)
def fileB (K : PySem.W.Frag) (file : Str) : Value → Bool
  | .ref c => (match K.lookup c with
    | some ⟨_, _, .fields vs, _⟩ => (match (vs[2]? : Option Value) with
      | some (.str f _) => decide (f = file)
      | _ => false)
    | _ => false)
  | _ => false
def cellB (K : PySem.W.Frag) (C : Addr) : List (Str × Addr) → Bool
  | [q] => (match K.lookup q.2 with
    | some ⟨_, _, .cell (some (.ref D)), _⟩ => decide (D = C)
    | _ => false)
  | _ => false
/-- the class's facts -/
def ExD.cB (K : PySem.W.Frag) (d : ExD) : Bool :=
  PySem.W.excInitIn K (He.ga K d.x) d.tl d.newId && (PySem.W.excOver K (He.ga K d.x) d.tl && ((PySem.W.clsIn K (He.ga K d.x)).any (·.hasDict) && (He.eqO (PySem.W.findIn K (.ref (He.ga K d.x)) "__setattr__") (some (some (.builtin "object.__setattr__"))) &&
  (He.eqO (PySem.W.findIn K (.ref (He.ga K d.x)) "__getattribute__") (some (some (.builtin "BaseException.__getattribute__"))) && (He.eqO (PySem.W.findIn K (.ref (He.ga K d.x)) "__getattr__") (some none) && (PySem.W.keepIn K (.ref (He.ga K d.x)) &&
  (decide (PySem.W.subIn K (.ref (He.ga K d.x)) (.type "BaseException") = some true) && (decide (PySem.W.typeIn K (.ref (He.ga K d.x)) = some (.type "type")) && (He.eqO (PySem.W.ks_superIn K (He.ga K d.x) (He.ga K d.x) "__init__") (some (some (.builtin d.initId))) &&
  (decide (PySem.W.subIn K (.ref (He.ga K d.x)) (.type d.B) = some true) && (decide (PySem.W.mroIn K (He.ga K d.x) (.ref (He.ga K d.x)) = some true) && (He.eqO (PySem.W.takerIn K (He.ga K d.x) "code") (some none) && He.eqO (PySem.W.findIn K (.ref (He.ga K d.x)) "code") (some none)))))))))))))
def ExD.iB (K : PySem.W.Frag) (file : Str) (d : ExD) : Bool :=
  He.eqO (PySem.W.findIn K (.ref (He.ga K d.x)) "__init__") (some (some (.ref (fiOf K d.x)))) && (decide (PySem.W.typeIn K (.ref (fiOf K d.x)) = some (.type "function")) && (He.eqO (PySem.W.nsIn K mainGlobals d.x) (some (some (.ref (He.ga K d.x)))) &&
  (d.fs.all (fun f => He.eqO (PySem.W.takerIn K (He.ga K d.x) f) (some none) && He.eqO (PySem.W.findIn K (.ref (He.ga K d.x)) f) (some none)) && (PySem.W.hasDictIn K (He.ga K d.x) &&
  (match K.lookup (fiOf K d.x) with
    | some ⟨_, _, .func fd, _⟩ => PySem.W.codeIn K fd.code d.qual && (fileB K file fd.code && cellB K (He.ga K d.x) fd.closure)
    | _ => false)))))
def isxB (K : PySem.W.Frag) (x : Str) : Bool :=
  (PySem.W.clsIn K (He.ga K x)).isSome && (He.eqO (PySem.W.findIn K (.ref (He.ga K x)) "__class__") (some (some (.builtin "object.__class__"))) && (He.eqO (PySem.W.specialIn K (.builtin "object.__class__") "__get__") (some (some (.builtin "getset_descriptor.__get__"))) &&
  (decide (PySem.W.takesIn K (.builtin "object.__class__") = some true) && decide (PySem.W.mroIn K (He.ga K x) (.type "object") = some true))))
def ExD.ok (K : PySem.W.Frag) (file : Str) (d : ExD) : Bool := d.cB K && (d.iB K file && isxB K d.x)
section
variable {K : PySem.W.Frag} {d : ExD}
theorem ExD.exC (h : d.cB K = true) : DX.ExC K (He.ga K d.x) d.B d.newId d.initId d.tl := by
  unfold ExD.cB at h
  simp only [Bool.and_eq_true, decide_eq_true_eq] at h
  obtain ⟨h1, h2, h3, h4, h5, h6, h7, h8, h9, h10, h11, h12, h13, h14⟩ := h
  exact ⟨h1, h2, h3, He.eqO_ok h4, He.eqO_ok h5, He.eqO_ok h6, h7, h8, h9, He.eqO_ok h10, h11, h12, He.eqO_ok h13, He.eqO_ok h14⟩
theorem fileB_ok {file : Str} {v : Value} (h : fileB K file v = true) : ∃ c ccl cdd vs ccs tf, v = .ref c ∧ K.lookup c = some ⟨ccl, cdd, .fields vs, ccs⟩ ∧ vs[2]? = some (.str file tf) := by
  cases v <;> try (exact absurd h Bool.false_ne_true)
  rename_i c
  have h1 : (match K.lookup c with
    | some ⟨_, _, .fields vs, _⟩ => (match (vs[2]? : Option Value) with
      | some (.str f _) => decide (f = file)
      | _ => false)
    | _ => false) = true := h
  cases q : K.lookup c with
  | none => rw [q] at h1; cases h1
  | some o =>
    obtain ⟨oc, od, dt, sl⟩ := o
    rw [q] at h1
    cases dt with
    | fields vs =>
      have h2 : (match (vs[2]? : Option Value) with
        | some (.str f _) => decide (f = file)
        | _ => false) = true := h1
      cases q2 : vs[2]? with
      | none => rw [q2] at h2; cases h2
      | some u =>
        rw [q2] at h2
        cases u with
        | str f t =>
          have z : f = file := of_decide_eq_true h2
          subst z
          exact ⟨c, _, _, vs, _, t, rfl, q, q2⟩
        | _ => cases h2
    | _ => cases h1
theorem cellB_ok {C : Addr} {l : List (Str × Addr)} (h : cellB K C l = true) : ∃ y cc cl cld csl, l = [(y, cc)] ∧ K.lookup cc = some ⟨cl, cld, .cell (some (.ref C)), csl⟩ := by
  unfold cellB at h
  split at h
  · rename_i q
    obtain ⟨y, cc⟩ := q
    split at h
    · rename_i e
      have z := of_decide_eq_true h
      subst z
      exact ⟨y, cc, _, _, _, rfl, e⟩
    · cases h
  · cases h
theorem ExD.exI {file : Str} (e : fnE K d.x = d.val) (h : d.iB K file = true) : DX.ExI K file (He.ga K d.x) (fiOf K d.x) d.qual d.params d.body d.scope := by
  unfold ExD.iB at h
  rw [Bool.and_eq_true, Bool.and_eq_true, Bool.and_eq_true, Bool.and_eq_true, Bool.and_eq_true] at h
  obtain ⟨h1, h2, h3, h4, h5, h6⟩ := h
  refine ⟨He.eqO_ok h1, of_decide_eq_true h2, ?_⟩
  unfold fnE at e
  cases q : K.lookup (fiOf K d.x) with
  | none => rw [q] at h6; cases h6
  | some o =>
    obtain ⟨oc, od, dt, osl⟩ := o
    rw [q] at h6 e
    cases dt with
    | func fd =>
      obtain ⟨n1, n2, n3, n4, n5, n6, n7, n8, n9, n10, n11, n12, n13, n14, n15⟩ := fd
      dsimp only at h6
      rw [Bool.and_eq_true, Bool.and_eq_true] at h6
      obtain ⟨k1, k2, k3⟩ := h6
      obtain ⟨c, ccl, cdd, vs, ccs, tf, rfl, c1, c2⟩ := fileB_ok k2
      obtain ⟨y, cc, cl, cld, csl, rfl, c3⟩ := cellB_ok k3
      have e2 : (some (n1, n2, n3, n4, n5, n6, [y], n8, n15) : FnE) = d.val := e
      unfold ExD.val at e2
      simp only [Option.some.injEq, Prod.mk.injEq, List.cons.injEq, and_true] at e2
      obtain ⟨g1, g2, g3, g4, g5, g6, g7, g8, g9⟩ := e2
      subst g1 g2 g3 g4 g5 g6 g7 g8 g9
      exact ⟨c, cc, oc, od, n9, n10, n11, n12, n14, osl, ccl, cdd, vs, ccs, tf, cl, cld, csl, rfl, k1, c1, c2, c3⟩
    | _ => cases h6
theorem isxB_ok (h : isxB K d.x = true) (T : DX.ExC K (He.ga K d.x) d.B d.newId d.initId d.tl) : IsX K (He.ga K d.x) := by
  unfold isxB at h
  simp only [Bool.and_eq_true, decide_eq_true_eq] at h
  obtain ⟨h1, h2, h3, h4, h5⟩ := h
  exact ⟨h1, T.ga, T.gg, T.exC, He.eqO_ok h2, He.eqO_ok h3, h4, h5⟩
theorem ExD.xf {file : Str} (h : d.iB K file = true) (T : DX.ExC K (He.ga K d.x) d.B d.newId d.initId d.tl) : (∀ f ∈ d.fs, XfK K f d.x) ∧ XfK K "code" d.x ∧ ∀ f ∈ d.fs, PySem.W.takerIn K (He.ga K d.x) f = some none := by
  unfold ExD.iB at h
  rw [Bool.and_eq_true, Bool.and_eq_true, Bool.and_eq_true, Bool.and_eq_true, Bool.and_eq_true] at h
  obtain ⟨h1, h2, h3, h4, h5, h6⟩ := h
  have x : XfC K (He.ga K d.x) := ⟨T.ga, T.gg, T.exC, h5⟩
  have z := fun f hf => Bool.and_eq_true_iff.mp (List.all_eq_true.mp h4 f hf)
  exact ⟨fun f hf => ⟨x, He.eqO_ok (z f hf).2⟩, ⟨x, T.codeN⟩, fun f hf => He.eqO_ok (z f hf).1⟩
end

/-! ### the Hook -/
abbrev AlM : Type := He.AlD × Bool × List FnE
def obsM (fa : List He.Fa) (fn : List He.DefD) (ex : List ExD) (file : Str) (tr : PySem.W.Frag → Bool) (K : PySem.W.Frag) : AlM := (He.obsD fa fn K, (ex.all fun d => d.ok K file) && tr K, ex.map fun d => fnE K d.x)
def valM (fn : List He.DefD) (ex : List ExD) : AlM := (He.valD fn, true, ex.map ExD.val)
def asM (g : Addr → Option Obj) (n : Nat) : List Addr := He.asD g n ++ [PySem.cStatics]
def obsMG (n : Nat) (fa : List He.Fa) (fn : List He.DefD) (ex : List ExD) (file : Str) (tr : PySem.W.Frag → Bool) (g : Addr → Option Obj) : AlM := obsM fa fn ex file tr (He.frG g (asM g n))
def SaysM (fa : List He.Fa) (fn : List He.DefD) (ex : List ExD) (file : Str) (tr : PySem.W.Frag → Bool) (K : PySem.W.Frag) : Prop := obsM fa fn ex file tr K = valM fn ex
def hookM (n : Nat) (fa : List He.Fa) (fn : List He.DefD) (ex : List ExD) (file : Str) (tr : PySem.W.Frag → Bool) : PySem.W.Hook where
  α := AlM
  obs := fun s => obsMG n fa fn ex file tr s.heap.get?
  val := fun _ => valM fn ex
  says := fun _ h => ∃ K : PySem.W.Frag, K.In h ∧ SaysM fa fn ex file tr K
  of := fun _ _ e => ⟨_, He.frG_in, e⟩
  keeps := fun _ _ _ ⟨K, hK, c⟩ k => ⟨K, PySem.W.Frag.In.keeps hK k, c⟩
theorem obsMG_eq {n : Nat} {fa : List He.Fa} {fn : List He.DefD} {ex : List ExD} {file : Str} {tr : PySem.W.Frag → Bool} {g : Addr → Option Obj} {s : Shared} (h : ∀ a, g a = s.heap.get? a) : obsMG n fa fn ex file tr g = (hookM n fa fn ex file tr).obs s := by
  have e : g = s.heap.get? := funext h
  rw [e] <;> rfl
section
variable {fa : List He.Fa} {fn : List He.DefD} {ex : List ExD} {file : Str} {tr : PySem.W.Frag → Bool} {K : PySem.W.Frag}
theorem SaysM.d (c : SaysM fa fn ex file tr K) : He.SaysD fa fn K := congrArg (fun z : AlM => z.1) c
theorem SaysM.t (c : SaysM fa fn ex file tr K) : tr K = true := (Bool.and_eq_true_iff.mp (show ((ex.all fun d => d.ok K file) && tr K) = true from congrArg (fun z : AlM => z.2.1) c)).2
theorem SaysM.exs (c : SaysM fa fn ex file tr K) {d : ExD} (hd : d ∈ ex) : d.ok K file = true ∧ fnE K d.x = d.val := by
  refine ⟨List.all_eq_true.mp (Bool.and_eq_true_iff.mp (show ((ex.all fun d => d.ok K file) && tr K) = true from congrArg (fun z : AlM => z.2.1) c)).1 d hd, ?_⟩
  have e : ex.map (fun d => fnE K d.x) = ex.map ExD.val := congrArg (fun z : AlM => z.2.2) c
  obtain ⟨i, hi⟩ := List.getElem?_of_mem hd
  have e2 : (ex.map fun d => fnE K d.x)[i]? = (ex.map ExD.val)[i]? := by rw [e]
  rw [List.getElem?_map, List.getElem?_map, hi] at e2
  exact Option.some.inj e2
end
end DL
/-! DH2: from the Hook's truths to what the rules ask. -/
namespace DL
open PySem L2

/-! ### isinstance by a table -/
def tyB (a b : String) : Bool := a == b || (a == "bool" && b == "int")
def tys : List String := ["NoneType", "bool", "int", "str", "tuple", "list", "dict"]
def tbOf (tab : List (Str × List Cl)) (tg : List Cl) : Cl → Cl → Option Bool
  | .ty a, .ty b => if (tys.contains a && tys.contains b) = true then some (tyB a b) else none
  | .own x, c => match tab.lookup x with
    | some l => if tg.contains c = true then some (l.contains c) else none
    | none => none
  | _, _ => none
def tabB (K : PySem.W.Frag) (tab : List (Str × List Cl)) (tg : List Cl) : Bool := tab.all fun q => tg.all fun c => decide (PySem.W.kitOne K (.ref (He.ga K q.1)) (c.v K) = some (q.2.contains c))
theorem tys_kit : ∀ a ∈ tys, ∀ b ∈ tys, kitB a b = some (tyB a b) := by decide +kernel
theorem lookup_mem' {x : Str} {l : List Cl} : ∀ {tab : List (Str × List Cl)}, tab.lookup x = some l → (x, l) ∈ tab
  | [], h => by cases h
  | (y, m) :: t, h => by
    simp only [List.lookup] at h
    split at h
    · rename_i e
      cases h
      rw [beq_iff_eq.mp e]
      exact List.mem_cons_self ..
    · exact List.mem_cons_of_mem _ (lookup_mem' h)
theorem kitT_of {K : PySem.W.Frag} {tab : List (Str × List Cl)} {tg : List Cl} (h : tabB K tab tg = true) : KitT K (tbOf tab tg) := by
  intro t c b e
  cases t with
  | ty a =>
    cases c with
    | ty a' =>
      simp only [tbOf] at e
      split at e
      · rename_i hh
        rw [Bool.and_eq_true] at hh
        cases e
        exact kit_ty (tys_kit a (by simpa using hh.1) a' (by simpa using hh.2))
      · cases e
    | own y => simp only [tbOf] at e; cases e
  | own x =>
    have e2 : (match tab.lookup x with
      | some l => if tg.contains c = true then some (l.contains c) else none
      | none => none) = some b := by cases c <;> exact e
    cases q : tab.lookup x with
    | none => rw [q] at e2; cases e2
    | some l =>
      rw [q] at e2
      dsimp only at e2
      split at e2
      · rename_i hc
        cases e2
        have z := List.all_eq_true.mp (List.all_eq_true.mp h _ (lookup_mem' q)) c (by simpa using hc)
        exact of_decide_eq_true z
      · cases e2

/-! ### an own exception of one attribute | of none -/
section
variable {P : Program} {w : World} {K : PySem.W.Frag} {mg : Str → Option Value} {d : ExD} {f M : Str} {h : Heap} {p1 p2 q1 q2 q3 q4 q5 q6 r1 r2 r3 r4 z1 z2 z3 z4 : Pos}
theorem lookup_one {f y : Str} {v u : Value} : ([(f, v)] ++ [(("code" : Str), u)]).lookup y = if y = f then some v else if y = ("code" : Str) then some u else none := by
  simp only [List.cons_append, List.nil_append, List.lookup]
  by_cases e : y = f
  · subst e; simp
  · have e1 : (y == f) = false := by simpa using e
    rw [if_neg e, e1]
    by_cases e2 : y = ("code" : Str)
    · subst e2; simp
    · have e3 : (y == ("code" : Str)) = false := by simpa using e2
      rw [if_neg e2, e3]
theorem lookup_nil {y : Str} {u : Value} : ([] ++ [(("code" : Str), u)]).lookup y = if y = ("code" : Str) then some u else none := by
  simp only [List.nil_append, List.lookup]
  by_cases e2 : y = ("code" : Str)
  · subst e2; simp
  · have e3 : (y == ("code" : Str)) = false := by simpa using e2
    rw [if_neg e2, e3]
theorem ExD.gl (X : K.In h) (G : h.Ns mainGlobals mg) {file : Str} (c : d.iB K file = true) : mg d.x = some (.ref (He.ga K d.x)) := by
  unfold ExD.iB at c
  rw [Bool.and_eq_true, Bool.and_eq_true, Bool.and_eq_true] at c
  exact PySem.W.mg_of X G (He.eqO_ok c.2.2.1)
theorem exKd1 (X : K.In h) (G : h.Ns mainGlobals mg) (b : DX.Bt d.B d.newId d.initId d.tl) (ok : d.ok K P.main.file = true) (e : fnE K d.x = d.val) (Pg : DX.Pg P K mg) (hp : d.params = DX.iA1 f p1 p2) (hb : d.body = [DX.iSup M q1 q2 q3 q4 q5 q6, DX.iCode M r1 r2 r3 r4, DX.iFld f z1 z2 z3 z4]) (hs : d.scope = DX.iS1 f)
    (hf : DX.fOk f = true) (hb1 : DX.Bi1 f) (hfs : f ∈ d.fs) (hev : DX.SupEv d.qual (DX.iS1 f) q1 q2 q3 q4 q5 M) : ExKd P w K mg d.x [f] M := by
  unfold ExD.ok at ok
  rw [Bool.and_eq_true, Bool.and_eq_true] at ok
  have T := ExD.exC ok.1
  have I := ExD.exI e ok.2.1
  rw [hp, hb, hs] at I
  refine ⟨fun {A R s rest} Y hl hr hq => ?_, T.kC, T.exC, T.tyC, ExD.gl X G ok.2.1⟩
  match rest, hl with
  | [v], _ =>
    refine DX.ex_call (mA := fun t y => if y = f then some v else if y = ("code" : Str) then some (.str M t) else none) b T I.iC I.tI Y (by simp) hr (fun Y' hx hn hd hq' => DX.ex_init1 b T I Pg hf hb1 ((ExD.xf ok.2.1 T).2.2 f hfs) hev Y' hx hn hd hq') fun h' tk' e dx t1 tkM Md => hq h' tk' e dx t1 tkM ?_
    have z : (fun y => (([f].zip [v]) ++ [(("code" : Str), Value.str M tkM)]).lookup y) = fun y => if y = f then some v else if y = ("code" : Str) then some (.str M tkM) else none := funext fun y => lookup_one
    rw [z]
    exact Md
theorem exKd0 (X : K.In h) (G : h.Ns mainGlobals mg) (b : DX.Bt d.B d.newId d.initId d.tl) (ok : d.ok K P.main.file = true) (e : fnE K d.x = d.val) (Pg : DX.Pg P K mg) (hp : d.params = DX.iA0 p1) (hb : d.body = [DX.iSup M q1 q2 q3 q4 q5 q6, DX.iCode M r1 r2 r3 r4]) (hs : d.scope = DX.iS0)
    (hev : DX.SupEv d.qual DX.iS0 q1 q2 q3 q4 q5 M) : ExKd P w K mg d.x [] M := by
  unfold ExD.ok at ok
  rw [Bool.and_eq_true, Bool.and_eq_true] at ok
  have T := ExD.exC ok.1
  have I := ExD.exI e ok.2.1
  rw [hp, hb, hs] at I
  refine ⟨fun {A R s rest} Y hl hr hq => ?_, T.kC, T.exC, T.tyC, ExD.gl X G ok.2.1⟩
  match rest, hl with
  | [], _ =>
    refine DX.ex_call (mA := fun t y => if y = ("code" : Str) then some (.str M t) else none) b T I.iC I.tI Y (by simp) hr (fun Y' hx hn hd hq' => DX.ex_init0 b T I Pg DX.bi0 hev Y' hx hn hd hq') fun h' tk' e dx t1 tkM Md => hq h' tk' e dx t1 tkM ?_
    have z : (fun y => ((([] : List Str).zip ([] : List Value)) ++ [(("code" : Str), Value.str M tkM)]).lookup y) = fun y => if y = ("code" : Str) then some (.str M tkM) else none := funext fun y => lookup_nil
    rw [z]
    exact Md
end
end DL
/-! DH3: a def that may be called by its name. -/
namespace DL
open PySem L2
theorem binds_of {K : PySem.W.Frag} {fd : FuncData} {ps : List Str} (b : ∀ (s : Shared) (us : List Value), us.length = ps.length → BindsTo s fd ⟨us, []⟩ (ps.zip us)) : Binds K fd ps [] := fun s us _ hl => by
  rw [List.append_nil] at hl ⊢
  exact b s us hl
structure Cal (P : Program) (w : World) (K : PySem.W.Frag) (mg : Str → Option Value) (base : Heap) (x : Str) (k : Nat) (ps : List Str) (fn : Fn) : Prop where
  ok : ∃ fd, FnOk P w K mg base (L2.CX P w) k (He.ga K x) fd ps (spD K ps.length fn) ∧ (∀ (s : Shared) (us : List Value), us.length = ps.length → BindsTo s fd ⟨us, []⟩ (ps.zip us)) ∧ ∃ oc od osl, K.lookup (He.ga K x) = some ⟨oc, od, .func fd, osl⟩
  gl : mg x = some (.ref (He.ga K x))
  kp : PySem.W.keepIn K (.ref (He.ga K x)) = true
section
variable {P : Program} {w : World} {K : PySem.W.Frag} {mg : Str → Option Value} {base : Heap} {x : Str} {pa : Arguments} {bd : List Stmt} {sc : Scope}
theorem dss_stk {X : Cx} {W : WX} {sts : List Stmt} : DSs X W sts (fun _ => .stk) := ⟨fun pins s σ H D I ⟨B, σd, Hf, r, p⟩ => p.elim⟩
/-- the def of that name, of a text -/
structure Fnd (K : PySem.W.Frag) (mg : Str → Option Value) (x : Str) (pa : Arguments) (bd : List Stmt) (sc : Scope) : Prop where
  fd : ∃ fd, FunD K x x pa bd sc [] [] (He.ga K x) fd
  gl : mg x = some (.ref (He.ga K x))
theorem cal_of {N ps : List Str} {k : Nat} {g : G} (F : Fnd K mg x pa bd sc) (S : FnScope N ps sc) (bi : ∀ fd, FunD K x x pa bd sc [] [] (He.ga K x) fd → ∀ (s : Shared) (us : List Value), us.length = ps.length → BindsTo s fd ⟨us, []⟩ (ps.zip us))
    (hb : ∀ (cdv : Value) (A : Around) (outer : List Env) (s : Shared) (H : Hp) (E : XK), Room k (A.deeper (PyProof.Rows.envOfC x sc s.heap.objs.size (He.ga K x) cdv)) → DSs (cxOf (L2.CX P w) P w K mg base N x sc (He.ga K x) cdv A outer s H E) (WF E) bd g) :
    Cal P w K mg base x (k + 1) ps (runD N.length g) := by
  obtain ⟨fd, f⟩ := F.fd
  obtain ⟨oc, od, _, _, _, _, _, _, _, osl, _, q, _⟩ := f.ex
  exact ⟨⟨fd, fn_D f S hb, bi fd f, oc, od, osl, q⟩, F.gl, f.kp⟩
theorem runD_stk (m : Nat) : runD m (fun _ => .stk) = fun _ => .stk := rfl
/-- nothing is promised -/
theorem cal_stk {N ps : List Str} (F : Fnd K mg x pa bd sc) (S : FnScope N ps sc) (bi : ∀ fd, FunD K x x pa bd sc [] [] (He.ga K x) fd → ∀ (s : Shared) (us : List Value), us.length = ps.length → BindsTo s fd ⟨us, []⟩ (ps.zip us)) : Cal P w K mg base x 1 ps (fun _ => .stk) :=
  cal_of (k := 0) (g := fun _ => .stk) F S bi fun _ _ _ _ _ _ _ => dss_stk
end
section
variable {X : Cx} {W : WX} {x : Str} {k : Nat} {ps : List Str} {fn : Fn} {p pos : Pos} {e : Expr} {es : List Expr} {g : F (List Ak)}
theorem dr_cal (c : Cal X.prog X.w X.K X.mg X.base x k ps fn) (hr : Room k X.A) (hg : Gl X x) (tk : Takes X W) (ha : DAr X W (e :: es) g) (hdb : (x == ("__debug__" : Str)) = false := by decide) (he : starEach (e :: es) X.env = (false, eval e X.env) :: starEach es X.env := by rfl) (hpl : (backTo pos (starEach es X.env)).any (·.1) = false := by rfl) :
    DR X W (.Call (.Name x p) (e :: es) [] pos) (dCallR ps.length fn g) := by
  obtain ⟨fd, f, b, _⟩ := c.ok
  exact dr_call f hr hg c.gl c.kp (binds_of b) tk ha hdb he hpl
theorem dr_cal0 (c : Cal X.prog X.w X.K X.mg X.base x k ps fn) (hr : Room k X.A) (hg : Gl X x) (tk : Takes X W) (hdb : (x == ("__debug__" : Str)) = false := by decide) : DR X W (.Call (.Name x p) [] [] pos) (dCallR ps.length fn aNil) := by
  obtain ⟨fd, f, b, _⟩ := c.ok
  exact dr_call0 f hr hg c.gl c.kp (binds_of b) tk hdb
theorem un65 {k : Nat} {A : Around} (r : Room k A) : A.units + 65 < cLine := by have := r.un; omega
theorem dp2 {k : Nat} {A : Around} (r : Room k A) : A.depth + 2 < recursionLimit := by have := r.dp; omega
end
end DL
namespace DL
open PySem L2
section
variable {X : Cx} {W : WX} {x : Str} {k : Nat} {ps : List Str} {fn : Fn} {p pos : Pos} {e : Expr} {es : List Expr} {g : F (List Ak)} {np : Nat}
theorem de_cal (c : Cal X.prog X.w X.K X.mg X.base x k ps fn) (hr : Room k X.A) (hg : Gl X x) (tk : Takes X W) (ha : DAr X W (e :: es) g) (hp : ps.length = np := by rfl) (hdb : (x == ("__debug__" : Str)) = false := by decide) (he : starEach (e :: es) X.env = (false, eval e X.env) :: starEach es X.env := by rfl) (hpl : (backTo pos (starEach es X.env)).any (·.1) = false := by rfl) :
    DE X W (.Call (.Name x p) (e :: es) [] pos) (dCall np fn g) := by
  subst hp
  exact de_r (dr_cal c hr hg tk ha hdb he hpl)
theorem de_cal0 (c : Cal X.prog X.w X.K X.mg X.base x k ps fn) (hr : Room k X.A) (hg : Gl X x) (tk : Takes X W) (hp : ps.length = np := by rfl) (hdb : (x == ("__debug__" : Str)) = false := by decide) : DE X W (.Call (.Name x p) [] [] pos) (dCall np fn aNil) := by
  subst hp
  exact de_r (dr_cal0 c hr hg tk hdb)
theorem df_cal (c : Cal X.prog X.w X.K X.mg X.base x k ps fn) (hr : Room k X.A) (hg : Gl X x) (tk : Takes X W) (ha : DAr X W (e :: es) g) (hp : ps.length = np := by rfl) (hdb : (x == ("__debug__" : Str)) = false := by decide) (he : starEach (e :: es) X.env = (false, eval e X.env) :: starEach es X.env := by rfl) (hpl : (backTo pos (starEach es X.env)).any (·.1) = false := by rfl) :
    DF X W (.Call (.Name x p) (e :: es) [] pos) (dCallF np fn g) := by
  subst hp
  exact df_r (dr_cal c hr hg tk ha hdb he hpl)
end
end DL
/-! DH4: the law's end: nothing gets out. -/
namespace DL
open PySem L2
def CXF : CXT := fun _ _ _ _ _ _ => False
theorem toF {P : Program} {w : World} {K : PySem.W.Frag} {mg : Str → Option Value} {base : Heap} {k : Nat} {f : Addr} {fd : FuncData} {ps : List Str} {sp : Sp} (F : FnOk P w K mg base (L2.CX P w) k f fd ps sp) : FnOk P w K mg base CXF k f fd ps (fun vs H Q _ => sp vs H Q fun _ _ _ => False) where
  len := fun vs H Q E h => F.len vs H Q _ h
  run := fun A outer s H args us vs Q E hr e0 hb r h => codeAny_mono (F.run A outer s H args us vs Q _ hr e0 hb r h) fun r s' hq => by
    cases r with
    | error e =>
      obtain ⟨a, B, H', cls, d, _, _, _, _, _, _, _, hE⟩ := hq
      exact hE.elim
    | ok fl => cases fl <;> exact hq
theorem reps_ints {K : PySem.W.Frag} {H : Hp} : ∀ ns : List Int, Reps K H (ns.map D.int) (ns.map V.int)
  | [] => Reps.nil
  | n :: ns => Reps.cons (by simp only [Rep]) (reps_ints ns)
/-- the law's promise from its mirror -/
theorem sp_law {K : PySem.W.Frag} {fn : Fn} {ns : List Int} {H : Hp} {a : Addr} (h : fn [.v (.frl (ns.map D.int))] = .ok [] (.fz (.bl true))) (hS : SqL K H a (ns.map V.int)) : spD K 1 fn [.ref a] H (fun v _ => v = .bl true) fun _ _ _ => False := by
  refine ⟨rfl, H, fun _ _ => True, [.v (.frl (ns.map D.int))], [], Same.refl _, ⟨_, [], rfl, ?_, rfl, rfl⟩, List.nodup_nil, ?_⟩
  · simp only [Rep]
    exact ⟨a, _, rfl, hS, reps_ints ns⟩
  · rw [h]
    intro v H' Hf' g sm hc hv
    simpa only [Rep] using hv
end DL
/-! DV1: mirrors worked out, step by step. -/
namespace DL
open PySem L2
section
variable {s s1 s2 s3 : SD} {x y z d : D} {i : Nat} {f g k : F D} {b b' : Bool}
theorem ev_P {α : Type} {a : α} : dP a s = .ok s a := rfl
theorem ev_var (h : s[i]? = some (.fz d)) : dVar i s = .ok s d := by unfold dVar; rw [h]
theorem ev_bin {h : D → D → Option D} (hf : f s = .ok s1 x) (hg : g s1 = .ok s2 y) (hh : h x y = some z) : dBin h f g s = .ok s2 z := by
  unfold dBin dB dO; rw [hf]; dsimp only; rw [hg]; dsimp only; rw [hh]
theorem ev_nil : dNil s = .ok s [] := rfl
theorem ev_cons {g : F (List D)} {l : List D} (hf : f s = .ok s1 x) (hg : g s1 = .ok s2 l) : dCons f g s = .ok s2 (x :: l) := by
  unfold dCons dB; rw [hf]; dsimp only; rw [hg]; rfl
theorem ev_bi {h : List D → Option D} {g : F (List D)} {l : List D} (hf : g s = .ok s1 l) (hh : h l = some d) : dBi h g s = .ok s1 d := by
  unfold dBi dB dO; rw [hf]; dsimp only; rw [hh]
theorem ev_lst {g : F (List D)} {l : List D} (hf : g s = .ok s1 l) (ok : okLen l.length = true) : dLst g s = .ok s1 (.lst l) := by
  unfold dLst dB; rw [hf]; dsimp only; rw [if_pos ok]; rfl
theorem ev_tup {g : F (List D)} {l : List D} (hf : g s = .ok s1 l) (ok : okLen l.length = true) : dTup g s = .ok s1 (.tup l) := by
  unfold dTup dB; rw [hf]; dsimp only; rw [if_pos ok]; rfl
theorem ev_ixO {c : D} {l : List D} {j : Int} (h0 : (s[i]?).bind Sl.cell = some c) (hg : g s = .ok s1 (.int j)) (h1 : (s1[i]?).bind Sl.cell = some (.lst l)) (ha : atI l j = some d) : dIxO i g s = .ok s1 d := by
  unfold dIxO; rw [h0]; dsimp only; unfold dB dO; rw [hg]; dsimp only; rw [h1]; dsimp only; rw [ha]
theorem ev_neg {j : Int} (hf : f s = .ok s1 (.int j)) : dNeg f s = .ok s1 (.int (-j)) := by
  unfold dNeg dB; rw [hf]; rfl
theorem ev_test (hf : f s = .ok s1 (.bl b)) : dTest f s = .ok s1 b := by
  unfold dTest dB dO; rw [hf]; rfl
theorem ev_not {f : F Bool} (hf : f s = .ok s1 b) : dNot f s = .ok s1 (!b) := by
  unfold dNot dB; rw [hf]; rfl
theorem ev_notV (hf : f s = .ok s1 (.bl b)) : dNotV f s = .ok s1 (.bl (!b)) := by
  unfold dNotV dB dO; rw [hf]; rfl
theorem ev_and {f g : F Bool} (hf : f s = .ok s1 b) (hg : g s1 = .ok s1 b') : dAnd f g s = .ok s1 (b && b') := by
  unfold dAnd dB; rw [hf]; dsimp only
  cases b with
  | true => rw [if_pos rfl, hg]; rfl
  | false => rw [if_neg Bool.false_ne_true]; rfl
theorem ev_andT {f g : F Bool} (hf : f s = .ok s1 true) (hg : g s1 = .ok s2 b') : dAnd f g s = .ok s2 b' := by
  unfold dAnd dB; rw [hf]; dsimp only; rw [if_pos rfl, hg]
theorem ev_andF {f g : F Bool} (hf : f s = .ok s1 false) : dAnd f g s = .ok s1 false := by
  unfold dAnd dB; rw [hf]; rfl
theorem ev_or {f g : F Bool} (hf : f s = .ok s1 b) (hg : g s1 = .ok s1 b') : dOr f g s = .ok s1 (b || b') := by
  unfold dOr dB; rw [hf]; dsimp only
  cases b with
  | true => rw [if_pos rfl]; rfl
  | false => rw [if_neg Bool.false_ne_true, hg]; rfl
theorem ev_orT {f g : F Bool} (hf : f s = .ok s1 true) : dOr f g s = .ok s1 true := by
  unfold dOr dB; rw [hf]; rfl
theorem ev_orF {f g : F Bool} (hf : f s = .ok s1 false) (hg : g s1 = .ok s2 b') : dOr f g s = .ok s2 b' := by
  unfold dOr dB; rw [hf]; dsimp only; rw [if_neg Bool.false_ne_true, hg]
theorem ev_seq {f g : G} {r : R SD Out} (hf : f s = .ok s1 .nx) (hg : g s1 = r) : gSeq f g s = r := by
  unfold gSeq dB; rw [hf]; exact hg
theorem ev_seqR {f g : G} {q : Rt} (hf : f s = .ok s1 (.rt q)) : gSeq f g s = .ok s1 (.rt q) := by
  unfold gSeq dB; rw [hf]; rfl
theorem ev_nx : gNx s = .ok s .nx := rfl
theorem ev_set (hf : f s = .ok s1 d) : gSet i f s = .ok (s1.set i (.fz d)) .nx := by
  unfold gSet dB; rw [hf]
theorem ev_setF (hf : f s = .ok s1 d) : gSetF i f s = .ok (s1.set i (.ow d)) .nx := by
  unfold gSetF dB; rw [hf]
theorem ev_stI {c : D} {l : List D} {j : Int} {n : Nat} (hf : f s = .ok s1 d) (h0 : (s1[i]?).bind Sl.cell = some c) (hg : g s1 = .ok s2 (.int j)) (h1 : (s2[i]?).bind Sl.cell = some (.lst l)) (hn : ixN l.length j = some n) : gStI i f g s = .ok (putAll s2 [i] [.lst (l.set n d)]) .nx := by
  unfold gStI dB; rw [hf]; dsimp only; rw [h0]; dsimp only; rw [hg]; dsimp only; rw [h1]; dsimp only; rw [hn]
theorem ev_ret (hf : f s = .ok s1 d) : gRet f s = .ok s1 (.rt (.fz d)) := by
  unfold gRet dB; rw [hf]; rfl
theorem ev_retF (hf : f s = .ok s1 d) : gRetF f s = .ok s1 (.rt (.ow d)) := by
  unfold gRetF dB; rw [hf]; rfl
theorem ev_expr (hf : f s = .ok s1 d) : gExpr f s = .ok s1 .nx := by
  unfold gExpr dB; rw [hf]; rfl
theorem ev_ifT {α : Type} {c : F Bool} {f g : F α} {r : R SD α} (hc : c s = .ok s1 b) (hb : b = true) (hf : f s1 = r) : dIf c f g s = r := by
  unfold dIf dB; rw [hc]; dsimp only; rw [if_pos hb]; exact hf
theorem ev_ifF {α : Type} {c : F Bool} {f g : F α} {r : R SD α} (hc : c s = .ok s1 b) (hb : b = false) (hf : g s1 = r) : dIf c f g s = r := by
  unfold dIf dB; rw [hc]; dsimp only; rw [if_neg (by rw [hb]; exact Bool.false_ne_true)]; exact hf
theorem ev_aNil : aNil s = .ok s [] := rfl
theorem ev_aCons {g : F (List Ak)} {l : List Ak} (hf : f s = .ok s1 x) (hg : g s1 = .ok s2 l) : aCons f g s = .ok s2 (.v x :: l) := by
  unfold aCons dB; rw [hf]; dsimp only; rw [hg]; rfl
theorem ev_aSlot {g : F (List Ak)} {l : List Ak} {c : D} (h0 : (s[i]?).bind Sl.cell = some c) (hg : g s = .ok s1 l) : aSlot i g s = .ok s1 (.s i :: l) := by
  unfold aSlot; rw [h0]; dsimp only; unfold dB; rw [hg]; rfl
theorem ev_call {np : Nat} {fn : Fn} {a : F (List Ak)} {l : List Ak} {ars : List Ar} {cs : List D} {r : Rt} (ha : a s = .ok s1 l) (nd : (akIx l).Nodup) (hp : l.length = np) (hr : akAr s1 l = some ars) (hf : fn ars = .ok cs r) : dCall np fn a s = .ok (putAll s1 (akIx l) cs) r.d := by
  unfold dCall dCallR dB; rw [ha]; dsimp only
  rw [if_pos (by rw [Bool.and_eq_true]; exact ⟨decide_eq_true nd, decide_eq_true hp⟩), hr]; dsimp only; rw [hf]; rfl
theorem ev_callF {np : Nat} {fn : Fn} {a : F (List Ak)} {l : List Ak} {ars : List Ar} {cs : List D} {c : D} (ha : a s = .ok s1 l) (nd : (akIx l).Nodup) (hp : l.length = np) (hr : akAr s1 l = some ars) (hf : fn ars = .ok cs (.ow c)) : dCallF np fn a s = .ok (putAll s1 (akIx l) cs) c := by
  unfold dCallF dCallR dB; rw [ha]; dsimp only
  rw [if_pos (by rw [Bool.and_eq_true]; exact ⟨decide_eq_true nd, decide_eq_true hp⟩), hr]; dsimp only; rw [hf]; rfl
theorem ev_run {m : Nat} {g : G} {ars : List Ar} {r : Rt} {cs : List D} (h : g (slotsOf ars 0 ++ List.replicate (m - ars.length) .un) = .ok s (.rt r)) (ho : outs s (nrf ars) 0 = some cs) : runD m g ars = .ok cs r := by
  unfold runD; rw [h]; dsimp only; rw [ho]
/-! arithmetic -/
theorem op_mul_ok {i j : Int} (h : mulOk i j = true) : dMul (.int i) (.int j) = some (.int (i * j)) := by
  unfold dMul; dsimp only; rw [if_pos h]
theorem op_mod_ok {i j : Int} (h : 0 < j) : dMod (.int i) (.int j) = some (.int (i % j)) := by
  unfold dMod; dsimp only; rw [if_pos (decide_eq_true h)]
theorem op_fdiv_ok {i j : Int} (h : 0 < j) (h2 : j < 1073741824) : dFdiv (.int i) (.int j) = some (.int (i / j)) := by
  unfold dFdiv; dsimp only; rw [if_pos (by rw [Bool.and_eq_true]; exact ⟨decide_eq_true h, decide_eq_true h2⟩)]
end
end DL
/-! ### the text, the head -/
namespace LW
open PySem PySem.Spec PyProof.Rows L2 DL
def top (i : Nat) : Stmt := PySem.Challenge.pw_gapborn_k01_errors_by_themselves.main.body.getD i (.Pass ⟨0, 0, 0, 0⟩)
def initOf : Stmt → Stmt
  | .ClassDef _ _ _ (st :: _) _ _ _ _ _ _ _ => st
  | s => s
abbrev s__law_open : Stmt := top 32
def d__law_open : He.DefD := ⟨("_law_open", none), "_law_open", "_law_open", defArgs s__law_open, defBody s__law_open, defScope s__law_open, [], []⟩
abbrev s__law_draw : Stmt := top 33
def d__law_draw : He.DefD := ⟨("_law_draw", none), "_law_draw", "_law_draw", defArgs s__law_draw, defBody s__law_draw, defScope s__law_draw, [], []⟩
abbrev s__law_of : Stmt := top 34
def d__law_of : He.DefD := ⟨("_law_of", none), "_law_of", "_law_of", defArgs s__law_of, defBody s__law_of, defScope s__law_of, [], []⟩
abbrev s__law_same : Stmt := top 35
def d__law_same : He.DefD := ⟨("_law_same", none), "_law_same", "_law_same", defArgs s__law_same, defBody s__law_same, defScope s__law_same, [], []⟩
abbrev s__law_given_errors : Stmt := top 36
def d__law_given_errors : He.DefD := ⟨("_law_given_errors", none), "_law_given_errors", "_law_given_errors", defArgs s__law_given_errors, defBody s__law_given_errors, defScope s__law_given_errors, [], []⟩
abbrev s__law_at_errors : Stmt := top 37
def d__law_at_errors : He.DefD := ⟨("_law_at_errors", none), "_law_at_errors", "_law_at_errors", defArgs s__law_at_errors, defBody s__law_at_errors, defScope s__law_at_errors, [], []⟩
abbrev s__law_classes_of : Stmt := top 38
def d__law_classes_of : He.DefD := ⟨("_law_classes_of", none), "_law_classes_of", "_law_classes_of", defArgs s__law_classes_of, defBody s__law_classes_of, defScope s__law_classes_of, [], []⟩
abbrev s__law_codes : Stmt := top 39
def d__law_codes : He.DefD := ⟨("_law_codes", none), "_law_codes", "_law_codes", defArgs s__law_codes, defBody s__law_codes, defScope s__law_codes, [], []⟩
abbrev s__law_raised : Stmt := top 40
def d__law_raised : He.DefD := ⟨("_law_raised", none), "_law_raised", "_law_raised", defArgs s__law_raised, defBody s__law_raised, defScope s__law_raised, [], []⟩
abbrev s_law : Stmt := top 41
def d_law : He.DefD := ⟨("law", none), "law", "law", defArgs s_law, defBody s_law, defScope s_law, [], []⟩
def e_InvalidKinds : ExD := ⟨"InvalidKinds", "InvalidKinds.__init__", defArgs (initOf (top 2)), defBody (initOf (top 2)), defScope (initOf (top 2)), "ValueError", "ValueError.__new__", "ValueError.__init__", [.type "ValueError", .type "Exception", .type "BaseException", .type "object"], ([PySem.Str.ofString "given"] : List PySem.Str)⟩
def e_InvalidComers : ExD := ⟨"InvalidComers", "InvalidComers.__init__", defArgs (initOf (top 3)), defBody (initOf (top 3)), defScope (initOf (top 3)), "ValueError", "ValueError.__new__", "ValueError.__init__", [.type "ValueError", .type "Exception", .type "BaseException", .type "object"], ([PySem.Str.ofString "given"] : List PySem.Str)⟩
def e_InvalidLine : ExD := ⟨"InvalidLine", "InvalidLine.__init__", defArgs (initOf (top 4)), defBody (initOf (top 4)), defScope (initOf (top 4)), "ValueError", "ValueError.__new__", "ValueError.__init__", [.type "ValueError", .type "Exception", .type "BaseException", .type "object"], ([PySem.Str.ofString "at"] : List PySem.Str)⟩
def e_InvalidGap : ExD := ⟨"InvalidGap", "InvalidGap.__init__", defArgs (initOf (top 5)), defBody (initOf (top 5)), defScope (initOf (top 5)), "ValueError", "ValueError.__new__", "ValueError.__init__", [.type "ValueError", .type "Exception", .type "BaseException", .type "object"], ([PySem.Str.ofString "given"] : List PySem.Str)⟩
def e_InvalidComer : ExD := ⟨"InvalidComer", "InvalidComer.__init__", defArgs (initOf (top 6)), defBody (initOf (top 6)), defScope (initOf (top 6)), "ValueError", "ValueError.__new__", "ValueError.__init__", [.type "ValueError", .type "Exception", .type "BaseException", .type "object"], ([PySem.Str.ofString "given"] : List PySem.Str)⟩
def e_InvalidKind : ExD := ⟨"InvalidKind", "InvalidKind.__init__", defArgs (initOf (top 7)), defBody (initOf (top 7)), defScope (initOf (top 7)), "ValueError", "ValueError.__new__", "ValueError.__init__", [.type "ValueError", .type "Exception", .type "BaseException", .type "object"], ([PySem.Str.ofString "given"] : List PySem.Str)⟩
def e_InvalidRow : ExD := ⟨"InvalidRow", "InvalidRow.__init__", defArgs (initOf (top 8)), defBody (initOf (top 8)), defScope (initOf (top 8)), "ValueError", "ValueError.__new__", "ValueError.__init__", [.type "ValueError", .type "Exception", .type "BaseException", .type "object"], ([PySem.Str.ofString "given"] : List PySem.Str)⟩
def e_InvalidPlace : ExD := ⟨"InvalidPlace", "InvalidPlace.__init__", defArgs (initOf (top 9)), defBody (initOf (top 9)), defScope (initOf (top 9)), "ValueError", "ValueError.__new__", "ValueError.__init__", [.type "ValueError", .type "Exception", .type "BaseException", .type "object"], ([PySem.Str.ofString "given"] : List PySem.Str)⟩
def e_InvalidStep : ExD := ⟨"InvalidStep", "InvalidStep.__init__", defArgs (initOf (top 10)), defBody (initOf (top 10)), defScope (initOf (top 10)), "ValueError", "ValueError.__new__", "ValueError.__init__", [.type "ValueError", .type "Exception", .type "BaseException", .type "object"], ([PySem.Str.ofString "at"] : List PySem.Str)⟩
def e_InvalidOrder : ExD := ⟨"InvalidOrder", "InvalidOrder.__init__", defArgs (initOf (top 11)), defBody (initOf (top 11)), defScope (initOf (top 11)), "ValueError", "ValueError.__new__", "ValueError.__init__", [.type "ValueError", .type "Exception", .type "BaseException", .type "object"], ([PySem.Str.ofString "given"] : List PySem.Str)⟩
def e_InvalidTable : ExD := ⟨"InvalidTable", "InvalidTable.__init__", defArgs (initOf (top 12)), defBody (initOf (top 12)), defScope (initOf (top 12)), "ValueError", "ValueError.__new__", "ValueError.__init__", [.type "ValueError", .type "Exception", .type "BaseException", .type "object"], ([PySem.Str.ofString "at"] : List PySem.Str)⟩
def e_InvalidBad : ExD := ⟨"InvalidBad", "InvalidBad.__init__", defArgs (initOf (top 13)), defBody (initOf (top 13)), defScope (initOf (top 13)), "ValueError", "ValueError.__new__", "ValueError.__init__", [.type "ValueError", .type "Exception", .type "BaseException", .type "object"], ([PySem.Str.ofString "at"] : List PySem.Str)⟩
def e_InvalidModulus : ExD := ⟨"InvalidModulus", "InvalidModulus.__init__", defArgs (initOf (top 14)), defBody (initOf (top 14)), defScope (initOf (top 14)), "ValueError", "ValueError.__new__", "ValueError.__init__", [.type "ValueError", .type "Exception", .type "BaseException", .type "object"], ([PySem.Str.ofString "given"] : List PySem.Str)⟩
def e_InvalidRest : ExD := ⟨"InvalidRest", "InvalidRest.__init__", defArgs (initOf (top 15)), defBody (initOf (top 15)), defScope (initOf (top 15)), "ValueError", "ValueError.__new__", "ValueError.__init__", [.type "ValueError", .type "Exception", .type "BaseException", .type "object"], ([PySem.Str.ofString "given"] : List PySem.Str)⟩
def e_InvalidNumber : ExD := ⟨"InvalidNumber", "InvalidNumber.__init__", defArgs (initOf (top 16)), defBody (initOf (top 16)), defScope (initOf (top 16)), "ValueError", "ValueError.__new__", "ValueError.__init__", [.type "ValueError", .type "Exception", .type "BaseException", .type "object"], ([PySem.Str.ofString "given"] : List PySem.Str)⟩
def e_InvalidLimit : ExD := ⟨"InvalidLimit", "InvalidLimit.__init__", defArgs (initOf (top 17)), defBody (initOf (top 17)), defScope (initOf (top 17)), "ValueError", "ValueError.__new__", "ValueError.__init__", [.type "ValueError", .type "Exception", .type "BaseException", .type "object"], ([PySem.Str.ofString "given"] : List PySem.Str)⟩
def e_InvalidText : ExD := ⟨"InvalidText", "InvalidText.__init__", defArgs (initOf (top 18)), defBody (initOf (top 18)), defScope (initOf (top 18)), "ValueError", "ValueError.__new__", "ValueError.__init__", [.type "ValueError", .type "Exception", .type "BaseException", .type "object"], ([PySem.Str.ofString "line"] : List PySem.Str)⟩
def e_InvalidPage : ExD := ⟨"InvalidPage", "InvalidPage.__init__", defArgs (initOf (top 19)), defBody (initOf (top 19)), defScope (initOf (top 19)), "ValueError", "ValueError.__new__", "ValueError.__init__", [.type "ValueError", .type "Exception", .type "BaseException", .type "object"], ([PySem.Str.ofString "line"] : List PySem.Str)⟩
def e_InvalidPaper : ExD := ⟨"InvalidPaper", "InvalidPaper.__init__", defArgs (initOf (top 20)), defBody (initOf (top 20)), defScope (initOf (top 20)), "ValueError", "ValueError.__new__", "ValueError.__init__", [.type "ValueError", .type "Exception", .type "BaseException", .type "object"], ([] : List PySem.Str)⟩
def e_OtherKinds : ExD := ⟨"OtherKinds", "OtherKinds.__init__", defArgs (initOf (top 21)), defBody (initOf (top 21)), defScope (initOf (top 21)), "ValueError", "ValueError.__new__", "ValueError.__init__", [.type "ValueError", .type "Exception", .type "BaseException", .type "object"], ([] : List PySem.Str)⟩
def e_OtherComers : ExD := ⟨"OtherComers", "OtherComers.__init__", defArgs (initOf (top 22)), defBody (initOf (top 22)), defScope (initOf (top 22)), "ValueError", "ValueError.__new__", "ValueError.__init__", [.type "ValueError", .type "Exception", .type "BaseException", .type "object"], ([] : List PySem.Str)⟩
def e_NotBorn : ExD := ⟨"NotBorn", "NotBorn.__init__", defArgs (initOf (top 23)), defBody (initOf (top 23)), defScope (initOf (top 23)), "ValueError", "ValueError.__new__", "ValueError.__init__", [.type "ValueError", .type "Exception", .type "BaseException", .type "object"], ([PySem.Str.ofString "at"] : List PySem.Str)⟩
def e_NotFree : ExD := ⟨"NotFree", "NotFree.__init__", defArgs (initOf (top 24)), defBody (initOf (top 24)), defScope (initOf (top 24)), "ValueError", "ValueError.__new__", "ValueError.__init__", [.type "ValueError", .type "Exception", .type "BaseException", .type "object"], ([PySem.Str.ofString "at"] : List PySem.Str)⟩
def e_TooMany : ExD := ⟨"TooMany", "TooMany.__init__", defArgs (initOf (top 25)), defBody (initOf (top 25)), defScope (initOf (top 25)), "ValueError", "ValueError.__new__", "ValueError.__init__", [.type "ValueError", .type "Exception", .type "BaseException", .type "object"], ([PySem.Str.ofString "most"] : List PySem.Str)⟩
def e_Full : ExD := ⟨"Full", "Full.__init__", defArgs (initOf (top 26)), defBody (initOf (top 26)), defScope (initOf (top 26)), "ValueError", "ValueError.__new__", "ValueError.__init__", [.type "ValueError", .type "Exception", .type "BaseException", .type "object"], ([PySem.Str.ofString "most"] : List PySem.Str)⟩
def e_UnknownLetter : ExD := ⟨"UnknownLetter", "UnknownLetter.__init__", defArgs (initOf (top 28)), defBody (initOf (top 28)), defScope (initOf (top 28)), "LookupError", "LookupError.__new__", "LookupError.__init__", [.type "LookupError", .type "Exception", .type "BaseException", .type "object"], ([PySem.Str.ofString "at"] : List PySem.Str)⟩
def e_UnknownState : ExD := ⟨"UnknownState", "UnknownState.__init__", defArgs (initOf (top 29)), defBody (initOf (top 29)), defScope (initOf (top 29)), "LookupError", "LookupError.__new__", "LookupError.__init__", [.type "LookupError", .type "Exception", .type "BaseException", .type "object"], ([PySem.Str.ofString "state"] : List PySem.Str)⟩
def e_NothingLeft : ExD := ⟨"NothingLeft", "NothingLeft.__init__", defArgs (initOf (top 30)), defBody (initOf (top 30)), defScope (initOf (top 30)), "IndexError", "IndexError.__new__", "IndexError.__init__", [.type "IndexError", .type "LookupError", .type "Exception", .type "BaseException", .type "object"], ([] : List PySem.Str)⟩
def fn : List He.DefD := [d__law_open, d__law_draw, d__law_of, d__law_same, d__law_given_errors, d__law_at_errors, d__law_classes_of, d__law_codes, d__law_raised, d_law]
def ex : List ExD := [e_InvalidKinds, e_InvalidComers, e_InvalidLine, e_InvalidGap, e_InvalidComer, e_InvalidKind, e_InvalidRow, e_InvalidPlace, e_InvalidStep, e_InvalidOrder, e_InvalidTable, e_InvalidBad, e_InvalidModulus, e_InvalidRest, e_InvalidNumber, e_InvalidLimit, e_InvalidText, e_InvalidPage, e_InvalidPaper, e_OtherKinds, e_OtherComers, e_NotBorn, e_NotFree, e_TooMany, e_Full, e_UnknownLetter, e_UnknownState, e_NothingLeft]
def fa : List He.Fa := [.glo "_law_open", .glo "_law_draw", .glo "_law_of", .glo "_law_same", .glo "_law_given_errors", .glo "_law_at_errors", .glo "_law_classes_of", .glo "_law_codes", .glo "_law_raised", .glo "law", .free "abs", .free "len", .free "int", .free "list", .free "isinstance", .free "all", .free "zip", .free "enumerate", .free "range", .free "bool", .free "str", .free "tuple", .free "ValueError", .free "LookupError", .free "IndexError", .free "super", .glo "GapError", .glo "Missing", .exm "NothingLeft" "GapError" false, .exm "InvalidPage" "GapError" true, .exm "UnknownState" "GapError" false, .exm "NothingLeft" "Missing" false, .exm "InvalidPage" "Missing" false, .exm "UnknownState" "Missing" true, .exm "NothingLeft" "NothingLeft" true, .exm "InvalidPage" "NothingLeft" false, .exm "UnknownState" "NothingLeft" false]
def tab : List (Str × List Cl) := [(PySem.Str.ofString "InvalidKinds", [.own (PySem.Str.ofString "InvalidKinds"), .own (PySem.Str.ofString "GapError"), .ty "ValueError"]), (PySem.Str.ofString "InvalidComers", [.own (PySem.Str.ofString "InvalidComers"), .own (PySem.Str.ofString "GapError"), .ty "ValueError"]), (PySem.Str.ofString "InvalidLine", [.own (PySem.Str.ofString "InvalidLine"), .own (PySem.Str.ofString "GapError"), .ty "ValueError"]), (PySem.Str.ofString "InvalidGap", [.own (PySem.Str.ofString "InvalidGap"), .own (PySem.Str.ofString "GapError"), .ty "ValueError"]), (PySem.Str.ofString "InvalidComer", [.own (PySem.Str.ofString "InvalidComer"), .own (PySem.Str.ofString "GapError"), .ty "ValueError"]), (PySem.Str.ofString "InvalidKind", [.own (PySem.Str.ofString "InvalidKind"), .own (PySem.Str.ofString "GapError"), .ty "ValueError"]), (PySem.Str.ofString "InvalidRow", [.own (PySem.Str.ofString "InvalidRow"), .own (PySem.Str.ofString "GapError"), .ty "ValueError"]), (PySem.Str.ofString "InvalidPlace", [.own (PySem.Str.ofString "InvalidPlace"), .own (PySem.Str.ofString "GapError"), .ty "ValueError"]), (PySem.Str.ofString "InvalidStep", [.own (PySem.Str.ofString "InvalidStep"), .own (PySem.Str.ofString "GapError"), .ty "ValueError"]), (PySem.Str.ofString "InvalidOrder", [.own (PySem.Str.ofString "InvalidOrder"), .own (PySem.Str.ofString "GapError"), .ty "ValueError"]), (PySem.Str.ofString "InvalidTable", [.own (PySem.Str.ofString "InvalidTable"), .own (PySem.Str.ofString "GapError"), .ty "ValueError"]), (PySem.Str.ofString "InvalidBad", [.own (PySem.Str.ofString "InvalidBad"), .own (PySem.Str.ofString "GapError"), .ty "ValueError"]), (PySem.Str.ofString "InvalidModulus", [.own (PySem.Str.ofString "InvalidModulus"), .own (PySem.Str.ofString "GapError"), .ty "ValueError"]), (PySem.Str.ofString "InvalidRest", [.own (PySem.Str.ofString "InvalidRest"), .own (PySem.Str.ofString "GapError"), .ty "ValueError"]), (PySem.Str.ofString "InvalidNumber", [.own (PySem.Str.ofString "InvalidNumber"), .own (PySem.Str.ofString "GapError"), .ty "ValueError"]), (PySem.Str.ofString "InvalidLimit", [.own (PySem.Str.ofString "InvalidLimit"), .own (PySem.Str.ofString "GapError"), .ty "ValueError"]), (PySem.Str.ofString "InvalidText", [.own (PySem.Str.ofString "InvalidText"), .own (PySem.Str.ofString "GapError"), .ty "ValueError"]), (PySem.Str.ofString "InvalidPage", [.own (PySem.Str.ofString "InvalidPage"), .own (PySem.Str.ofString "GapError"), .ty "ValueError"]), (PySem.Str.ofString "InvalidPaper", [.own (PySem.Str.ofString "InvalidPaper"), .own (PySem.Str.ofString "GapError"), .ty "ValueError"]), (PySem.Str.ofString "OtherKinds", [.own (PySem.Str.ofString "OtherKinds"), .own (PySem.Str.ofString "GapError"), .ty "ValueError"]), (PySem.Str.ofString "OtherComers", [.own (PySem.Str.ofString "OtherComers"), .own (PySem.Str.ofString "GapError"), .ty "ValueError"]), (PySem.Str.ofString "NotBorn", [.own (PySem.Str.ofString "NotBorn"), .own (PySem.Str.ofString "GapError"), .ty "ValueError"]), (PySem.Str.ofString "NotFree", [.own (PySem.Str.ofString "NotFree"), .own (PySem.Str.ofString "GapError"), .ty "ValueError"]), (PySem.Str.ofString "TooMany", [.own (PySem.Str.ofString "TooMany"), .own (PySem.Str.ofString "GapError"), .ty "ValueError"]), (PySem.Str.ofString "Full", [.own (PySem.Str.ofString "Full"), .own (PySem.Str.ofString "GapError"), .ty "ValueError"]), (PySem.Str.ofString "UnknownLetter", [.own (PySem.Str.ofString "UnknownLetter"), .own (PySem.Str.ofString "Missing"), .ty "LookupError"]), (PySem.Str.ofString "UnknownState", [.own (PySem.Str.ofString "UnknownState"), .own (PySem.Str.ofString "Missing"), .ty "LookupError"]), (PySem.Str.ofString "NothingLeft", [.own (PySem.Str.ofString "NothingLeft"), .ty "IndexError", .ty "LookupError"])]
def tg : List Cl := [.own (PySem.Str.ofString "InvalidKinds"), .own (PySem.Str.ofString "InvalidComers"), .own (PySem.Str.ofString "InvalidLine"), .own (PySem.Str.ofString "InvalidGap"), .own (PySem.Str.ofString "InvalidComer"), .own (PySem.Str.ofString "InvalidKind"), .own (PySem.Str.ofString "InvalidRow"), .own (PySem.Str.ofString "InvalidPlace"), .own (PySem.Str.ofString "InvalidStep"), .own (PySem.Str.ofString "InvalidOrder"), .own (PySem.Str.ofString "InvalidTable"), .own (PySem.Str.ofString "InvalidBad"), .own (PySem.Str.ofString "InvalidModulus"), .own (PySem.Str.ofString "InvalidRest"), .own (PySem.Str.ofString "InvalidNumber"), .own (PySem.Str.ofString "InvalidLimit"), .own (PySem.Str.ofString "InvalidText"), .own (PySem.Str.ofString "InvalidPage"), .own (PySem.Str.ofString "InvalidPaper"), .own (PySem.Str.ofString "OtherKinds"), .own (PySem.Str.ofString "OtherComers"), .own (PySem.Str.ofString "NotBorn"), .own (PySem.Str.ofString "NotFree"), .own (PySem.Str.ofString "TooMany"), .own (PySem.Str.ofString "Full"), .own (PySem.Str.ofString "UnknownLetter"), .own (PySem.Str.ofString "UnknownState"), .own (PySem.Str.ofString "NothingLeft"), .own (PySem.Str.ofString "GapError"), .own (PySem.Str.ofString "Missing"), .ty "ValueError", .ty "LookupError", .ty "IndexError"]
def tr (K : PySem.W.Frag) : Bool := tabB K tab tg && He.eqO (PySem.W.nsIn K PySem.cStatics "thirdparty.any") (some none)
def loose : List PySem.Str := ([PySem.Str.ofString "GapError", PySem.Str.ofString "InvalidKinds", PySem.Str.ofString "InvalidComers", PySem.Str.ofString "InvalidLine", PySem.Str.ofString "InvalidGap", PySem.Str.ofString "InvalidComer", PySem.Str.ofString "InvalidKind", PySem.Str.ofString "InvalidRow", PySem.Str.ofString "InvalidPlace", PySem.Str.ofString "InvalidStep", PySem.Str.ofString "InvalidOrder", PySem.Str.ofString "InvalidTable", PySem.Str.ofString "InvalidBad", PySem.Str.ofString "InvalidModulus", PySem.Str.ofString "InvalidRest", PySem.Str.ofString "InvalidNumber", PySem.Str.ofString "InvalidLimit", PySem.Str.ofString "InvalidText", PySem.Str.ofString "InvalidPage", PySem.Str.ofString "InvalidPaper", PySem.Str.ofString "OtherKinds", PySem.Str.ofString "OtherComers", PySem.Str.ofString "NotBorn", PySem.Str.ofString "NotFree", PySem.Str.ofString "TooMany", PySem.Str.ofString "Full", PySem.Str.ofString "Missing", PySem.Str.ofString "UnknownLetter", PySem.Str.ofString "UnknownState", PySem.Str.ofString "NothingLeft", PySem.Str.ofString "_law_open", PySem.Str.ofString "_law_draw", PySem.Str.ofString "_law_of", PySem.Str.ofString "_law_same", PySem.Str.ofString "_law_given_errors", PySem.Str.ofString "_law_at_errors", PySem.Str.ofString "_law_classes_of", PySem.Str.ofString "_law_codes", PySem.Str.ofString "_law_raised"] : List PySem.Str)
abbrev R : PySem.W.OpenRow := PySem.W.OpenLaw.row PySem.Challenge.rw_gapborn_k01_errors_by_themselves
abbrev file : Str := PySem.Challenge.pw_gapborn_k01_errors_by_themselves.main.file
abbrev hk : PySem.W.Hook := hookM 5 fa fn ex file tr
def ob (s : PySem.W.SharedT) : AlM := obsMG 5 fa fn ex file tr (HandSHeadRun.getT s)
theorem ob_eq (s : PySem.W.SharedT) : ob s = hk.obs s.abs := obsMG_eq (HandSHeadRun.getT_eq s)
set_option maxHeartbeats 0 in
theorem run (w : World) : HandSHeadRun.RunEq R (PySem.W.view R.prog [41]) hk ob 20000 loose w := by
  intro os
  kernel_rfl
end LW
/-! ### the defs as functions on data -/
namespace LW
open PySem L2 DL
def xsN : List Str := [PySem.Str.ofString "InvalidKinds", PySem.Str.ofString "InvalidComers", PySem.Str.ofString "InvalidLine", PySem.Str.ofString "InvalidGap", PySem.Str.ofString "InvalidComer", PySem.Str.ofString "InvalidKind", PySem.Str.ofString "InvalidRow", PySem.Str.ofString "InvalidPlace", PySem.Str.ofString "InvalidStep", PySem.Str.ofString "InvalidOrder", PySem.Str.ofString "InvalidTable", PySem.Str.ofString "InvalidBad", PySem.Str.ofString "InvalidModulus", PySem.Str.ofString "InvalidRest", PySem.Str.ofString "InvalidNumber", PySem.Str.ofString "InvalidLimit", PySem.Str.ofString "InvalidText", PySem.Str.ofString "InvalidPage", PySem.Str.ofString "InvalidPaper", PySem.Str.ofString "OtherKinds", PySem.Str.ofString "OtherComers", PySem.Str.ofString "NotBorn", PySem.Str.ofString "NotFree", PySem.Str.ofString "TooMany", PySem.Str.ofString "Full", PySem.Str.ofString "UnknownLetter", PySem.Str.ofString "UnknownState", PySem.Str.ofString "NothingLeft"]
abbrev tb : Cl → Cl → Option Bool := tbOf tab tg
def xs_at : List Str := [PySem.Str.ofString "InvalidLine", PySem.Str.ofString "InvalidStep", PySem.Str.ofString "InvalidTable", PySem.Str.ofString "InvalidBad", PySem.Str.ofString "NotBorn", PySem.Str.ofString "NotFree", PySem.Str.ofString "UnknownLetter"]
def xs_code : List Str := [PySem.Str.ofString "InvalidKinds", PySem.Str.ofString "InvalidComers", PySem.Str.ofString "InvalidLine", PySem.Str.ofString "InvalidGap", PySem.Str.ofString "InvalidComer", PySem.Str.ofString "InvalidKind", PySem.Str.ofString "InvalidRow", PySem.Str.ofString "InvalidPlace", PySem.Str.ofString "InvalidStep", PySem.Str.ofString "InvalidOrder", PySem.Str.ofString "InvalidTable", PySem.Str.ofString "InvalidBad", PySem.Str.ofString "InvalidModulus", PySem.Str.ofString "InvalidRest", PySem.Str.ofString "InvalidNumber", PySem.Str.ofString "InvalidLimit", PySem.Str.ofString "InvalidText", PySem.Str.ofString "InvalidPage", PySem.Str.ofString "InvalidPaper", PySem.Str.ofString "OtherKinds", PySem.Str.ofString "OtherComers", PySem.Str.ofString "NotBorn", PySem.Str.ofString "NotFree", PySem.Str.ofString "TooMany", PySem.Str.ofString "Full", PySem.Str.ofString "UnknownLetter", PySem.Str.ofString "UnknownState", PySem.Str.ofString "NothingLeft"]
def xs_given : List Str := [PySem.Str.ofString "InvalidKinds", PySem.Str.ofString "InvalidComers", PySem.Str.ofString "InvalidGap", PySem.Str.ofString "InvalidComer", PySem.Str.ofString "InvalidKind", PySem.Str.ofString "InvalidRow", PySem.Str.ofString "InvalidPlace", PySem.Str.ofString "InvalidOrder", PySem.Str.ofString "InvalidModulus", PySem.Str.ofString "InvalidRest", PySem.Str.ofString "InvalidNumber", PySem.Str.ofString "InvalidLimit"]
def xs_line : List Str := [PySem.Str.ofString "InvalidText", PySem.Str.ofString "InvalidPage"]
def xs_most : List Str := [PySem.Str.ofString "TooMany", PySem.Str.ofString "Full"]
def xs_state : List Str := [PySem.Str.ofString "UnknownState"]
def xsT : List Str := [PySem.Str.ofString "NothingLeft", PySem.Str.ofString "InvalidPage", PySem.Str.ofString "UnknownState"]
def isaT (x y : Str) : Bool := match tab.lookup x with
  | some l => l.contains (.own y)
  | none => false
def b__law_open_0 : G := gSeq (gSet 1 (dBin dMod (dBi bInt (dCons (dBin dAdd (dBin dAdd (dBin dMul (dVar 1) (dP (.int 44021))) (dBin dMul (dBin dMod (dBi bInt (dCons (dVar 2) (dNil))) (dP (.int 1000003))) (dP (.int 853)))) (dP (.int 23))) (dNil))) (dP (.int 2147483587)))) (gNx)
def g__law_open : G := gSeq (gSet 1 (dP (.int 4938))) (gSeq (gFor (dItL (dSl (dVar 0) (dNoPart) (dPart (dP (.int 63))))) (uName 2) (b__law_open_0)) (gSeq (gRetF (dLst (dCons (dBi bList (dCons (dSl (dVar 0) (dNoPart) (dPart (dP (.int 63)))) (dNil))) (dCons (dP (.int 0)) (dCons (dP (.int 0)) (dCons (dVar 1) (dCons (dP (.int 0)) (dNil)))))))) (gNx)))
def m__law_open : Fn := runD 3 g__law_open
def g__law_draw : G := gSeq (gStI 0 (dBin dAdd (dIxO 0 (dP (.int 4))) (dP (.int 1))) (dP (.int 4))) (gSeq (dIf (dAnd (dTest (dBin dEq (dIxO 0 (dP (.int 2))) (dP (.int 0)))) (dTest (dBin dLt (dIxO 0 (dP (.int 1))) (dBi bLen (dCons (dIxO 0 (dP (.int 0))) (dNil)))))) (gSeq (gSet 2 (dBin dIx (dIxO 0 (dP (.int 0))) (dIxO 0 (dP (.int 1))))) (gSeq (gStI 0 (dBin dAdd (dIxO 0 (dP (.int 1))) (dP (.int 1))) (dP (.int 1))) (gSeq (dIf (dTest (dBin dGe (dBi bAbs (dCons (dVar 2) (dNil))) (dBin dPow (dP (.int 10)) (dP (.int 18))))) (gSeq (gStI 0 (dBi bAbs (dCons (dVar 2) (dNil))) (dP (.int 2))) (gNx)) (gSeq (gStI 0 (dBin dMod (dBi bInt (dCons (dBin dAdd (dBin dAdd (dBin dMul (dIxO 0 (dP (.int 3))) (dP (.int 38113))) (dBin dMul (dBin dMod (dBi bInt (dCons (dVar 2) (dNil))) (dP (.int 1000003))) (dP (.int 691)))) (dP (.int 47))) (dNil))) (dP (.int 2147483629))) (dP (.int 3))) (gNx))) (gNx)))) (gNx)) (gSeq (dIf (dTest (dBin dGt (dIxO 0 (dP (.int 2))) (dP (.int 0)))) (gSeq (gSet 3 (dBin dMod (dBi bInt (dCons (dIxO 0 (dP (.int 2))) (dNil))) (dVar 1))) (gSeq (gStI 0 (dBin dFdiv (dIxO 0 (dP (.int 2))) (dVar 1)) (dP (.int 2))) (gSeq (gRet (dVar 3)) (gNx)))) (gNx)) (gSeq (gSet 4 (dBin dMod (dBi bInt (dCons (dBin dAdd (dBin dMul (dIxO 0 (dP (.int 3))) (dIxO 0 (dP (.int 3)))) (dBin dMul (dIxO 0 (dP (.int 4))) (dP (.int 9133)))) (dNil))) (dP (.int 2147483549)))) (gSeq (gStI 0 (dBin dMod (dBi bInt (dCons (dBin dAdd (dBin dAdd (dBin dMul (dVar 4) (dP (.int 16033))) (dBin dMul (dIxO 0 (dP (.int 3))) (dP (.int 51043)))) (dP (.int 60029))) (dNil))) (dP (.int 2147483629))) (dP (.int 3))) (gSeq (gRet (dBin dMod (dBi bInt (dCons (dBin dFdiv (dIxO 0 (dP (.int 3))) (dP (.int 64))) (dNil))) (dVar 1))) (gNx))))))
def m__law_draw : Fn := runD 5 g__law_draw
def g__law_of : G := gSeq (gRet (dBin dIx (dVar 1) (dCall 2 m__law_draw (aSlot 0 (aCons (dBi bLen (dCons (dVar 1) (dNil))) (aNil)))))) (gNx)
def m__law_of : Fn := runD 2 g__law_of
def g__law_same (fn__law_same : Fn) : G := gSeq (dIf (dOr (dTest (dBin dIs (dVar 1) (dP .non))) (dTest (dBin dIs (dVar 0) (dP .non)))) (gSeq (gRet (dAndV (dBin dIs (dVar 1) (dP .non)) (dBin dIs (dVar 0) (dP .non)))) (gNx)) (gNx)) (gSeq (dIf (dTest (dBi (bIsiN tb xsN) (dCons (dVar 1) (dCons (dTup (dCons (dP (.ty "list")) (dCons (dP (.ty "tuple")) (dNil)))) (dNil))))) (gSeq (dIf (dTest (dBin dNe (dBi (bIsiN tb xsN) (dCons (dVar 0) (dCons (dP (.ty "list")) (dNil)))) (dBi (bIsiN tb xsN) (dCons (dVar 1) (dCons (dP (.ty "list")) (dNil)))))) (gSeq (gRet (dP (.bl false))) (gNx)) (gNx)) (gSeq (dIf (dOr (dTest (dBin dNe (dBi (bIsiN tb xsN) (dCons (dVar 0) (dCons (dP (.ty "tuple")) (dNil)))) (dBi (bIsiN tb xsN) (dCons (dVar 1) (dCons (dP (.ty "tuple")) (dNil)))))) (dTest (dBin dNe (dBi bLen (dCons (dVar 0) (dNil))) (dBi bLen (dCons (dVar 1) (dNil)))))) (gSeq (gRet (dP (.bl false))) (gNx)) (gNx)) (gSeq (gRet (dBi bAll (dCons (dLc (dZip (dCons (dVar 0) (dCons (dVar 1) (dNil)))) (uTup 2 (uCons (uName 2) (uCons (uName 3) (uNil)))) (dYes) (dCall 2 fn__law_same (aCons (dVar 2) (aCons (dVar 3) (aNil)))) [2, 3]) (dNil)))) (gNx)))) (gNx)) (gSeq (dIf (dTest (dBi (bIsiN tb xsN) (dCons (dVar 0) (dCons (dTup (dCons (dP (.ty "list")) (dCons (dP (.ty "tuple")) (dNil)))) (dNil))))) (gSeq (gRet (dP (.bl false))) (gNx)) (gNx)) (gSeq (dIf (dTest (dBin dNe (dBi (bIsiN tb xsN) (dCons (dVar 0) (dCons (dP (.ty "bool")) (dNil)))) (dBi (bIsiN tb xsN) (dCons (dVar 1) (dCons (dP (.ty "bool")) (dNil)))))) (gSeq (gRet (dP (.bl false))) (gNx)) (gNx)) (gSeq (dIf (dTest (dBin dNe (dBi (bIsiN tb xsN) (dCons (dVar 0) (dCons (dP (.ty "int")) (dNil)))) (dBi (bIsiN tb xsN) (dCons (dVar 1) (dCons (dP (.ty "int")) (dNil)))))) (gSeq (gRet (dP (.bl false))) (gNx)) (gNx)) (gSeq (gRet (dAndV (dBin dEq (dBi (bIsiN tb xsN) (dCons (dVar 0) (dCons (dP (.ty "str")) (dNil)))) (dBi (bIsiN tb xsN) (dCons (dVar 1) (dCons (dP (.ty "str")) (dNil))))) (dBin dEq (dVar 0) (dVar 1)))) (gNx))))))
def r__law_same : Nat → Fn
  | 0 => fun _ => .stk
  | n + 1 => runD 4 (g__law_same (r__law_same n))
def m__law_same : Fn := r__law_same 4
def g__law_given_errors : G := gSeq (gRet (dLst (dCons (dExc "InvalidKinds" "InvalidKinds" [PySem.Str.ofString "given"] (dCons (dVar 0) (dNil))) (dCons (dExc "InvalidComers" "InvalidComers" [PySem.Str.ofString "given"] (dCons (dVar 0) (dNil))) (dCons (dExc "InvalidGap" "InvalidGap" [PySem.Str.ofString "given"] (dCons (dVar 0) (dNil))) (dCons (dExc "InvalidComer" "InvalidComer" [PySem.Str.ofString "given"] (dCons (dVar 0) (dNil))) (dCons (dExc "InvalidKind" "InvalidKind" [PySem.Str.ofString "given"] (dCons (dVar 0) (dNil))) (dCons (dExc "InvalidRow" "InvalidRow" [PySem.Str.ofString "given"] (dCons (dVar 0) (dNil))) (dCons (dExc "InvalidPlace" "InvalidPlace" [PySem.Str.ofString "given"] (dCons (dVar 0) (dNil))) (dCons (dExc "InvalidOrder" "InvalidOrder" [PySem.Str.ofString "given"] (dCons (dVar 0) (dNil))) (dCons (dExc "InvalidModulus" "InvalidModulus" [PySem.Str.ofString "given"] (dCons (dVar 0) (dNil))) (dCons (dExc "InvalidRest" "InvalidRest" [PySem.Str.ofString "given"] (dCons (dVar 0) (dNil))) (dCons (dExc "InvalidNumber" "InvalidNumber" [PySem.Str.ofString "given"] (dCons (dVar 0) (dNil))) (dCons (dExc "InvalidLimit" "InvalidLimit" [PySem.Str.ofString "given"] (dCons (dVar 0) (dNil))) (dNil))))))))))))))) (gNx)
def m__law_given_errors : Fn := runD 1 g__law_given_errors
def g__law_at_errors : G := gSeq (gRet (dLst (dCons (dExc "InvalidLine" "InvalidLine" [PySem.Str.ofString "at"] (dCons (dVar 0) (dNil))) (dCons (dExc "InvalidStep" "InvalidStep" [PySem.Str.ofString "at"] (dCons (dVar 0) (dNil))) (dCons (dExc "InvalidTable" "InvalidTable" [PySem.Str.ofString "at"] (dCons (dVar 0) (dNil))) (dCons (dExc "InvalidBad" "InvalidBad" [PySem.Str.ofString "at"] (dCons (dVar 0) (dNil))) (dCons (dExc "NotBorn" "NotBorn" [PySem.Str.ofString "at"] (dCons (dVar 0) (dNil))) (dCons (dExc "NotFree" "NotFree" [PySem.Str.ofString "at"] (dCons (dVar 0) (dNil))) (dNil))))))))) (gNx)
def m__law_at_errors : Fn := runD 1 g__law_at_errors
def g__law_classes_of : G := gSeq (gSet 1 (dLst (dCons (dBi (bIsiN tb xsN) (dCons (dVar 0) (dCons (dP (.glo "InvalidKinds")) (dNil)))) (dCons (dBi (bIsiN tb xsN) (dCons (dVar 0) (dCons (dP (.glo "InvalidComers")) (dNil)))) (dCons (dBi (bIsiN tb xsN) (dCons (dVar 0) (dCons (dP (.glo "InvalidGap")) (dNil)))) (dCons (dBi (bIsiN tb xsN) (dCons (dVar 0) (dCons (dP (.glo "InvalidComer")) (dNil)))) (dCons (dBi (bIsiN tb xsN) (dCons (dVar 0) (dCons (dP (.glo "InvalidKind")) (dNil)))) (dCons (dBi (bIsiN tb xsN) (dCons (dVar 0) (dCons (dP (.glo "InvalidRow")) (dNil)))) (dCons (dBi (bIsiN tb xsN) (dCons (dVar 0) (dCons (dP (.glo "InvalidPlace")) (dNil)))) (dCons (dBi (bIsiN tb xsN) (dCons (dVar 0) (dCons (dP (.glo "InvalidOrder")) (dNil)))) (dCons (dBi (bIsiN tb xsN) (dCons (dVar 0) (dCons (dP (.glo "InvalidModulus")) (dNil)))) (dCons (dBi (bIsiN tb xsN) (dCons (dVar 0) (dCons (dP (.glo "InvalidRest")) (dNil)))) (dCons (dBi (bIsiN tb xsN) (dCons (dVar 0) (dCons (dP (.glo "InvalidNumber")) (dNil)))) (dCons (dBi (bIsiN tb xsN) (dCons (dVar 0) (dCons (dP (.glo "InvalidLimit")) (dNil)))) (dNil))))))))))))))) (gSeq (gSet 2 (dLst (dCons (dBi (bIsiN tb xsN) (dCons (dVar 0) (dCons (dP (.glo "InvalidLine")) (dNil)))) (dCons (dBi (bIsiN tb xsN) (dCons (dVar 0) (dCons (dP (.glo "InvalidStep")) (dNil)))) (dCons (dBi (bIsiN tb xsN) (dCons (dVar 0) (dCons (dP (.glo "InvalidTable")) (dNil)))) (dCons (dBi (bIsiN tb xsN) (dCons (dVar 0) (dCons (dP (.glo "InvalidBad")) (dNil)))) (dCons (dBi (bIsiN tb xsN) (dCons (dVar 0) (dCons (dP (.glo "NotBorn")) (dNil)))) (dCons (dBi (bIsiN tb xsN) (dCons (dVar 0) (dCons (dP (.glo "NotFree")) (dNil)))) (dNil))))))))) (gSeq (gSet 3 (dLst (dCons (dBi (bIsiN tb xsN) (dCons (dVar 0) (dCons (dP (.glo "InvalidText")) (dNil)))) (dCons (dBi (bIsiN tb xsN) (dCons (dVar 0) (dCons (dP (.glo "InvalidPage")) (dNil)))) (dCons (dBi (bIsiN tb xsN) (dCons (dVar 0) (dCons (dP (.glo "TooMany")) (dNil)))) (dCons (dBi (bIsiN tb xsN) (dCons (dVar 0) (dCons (dP (.glo "Full")) (dNil)))) (dCons (dBi (bIsiN tb xsN) (dCons (dVar 0) (dCons (dP (.glo "InvalidPaper")) (dNil)))) (dCons (dBi (bIsiN tb xsN) (dCons (dVar 0) (dCons (dP (.glo "OtherKinds")) (dNil)))) (dCons (dBi (bIsiN tb xsN) (dCons (dVar 0) (dCons (dP (.glo "OtherComers")) (dNil)))) (dCons (dBi (bIsiN tb xsN) (dCons (dVar 0) (dCons (dP (.glo "UnknownLetter")) (dNil)))) (dCons (dBi (bIsiN tb xsN) (dCons (dVar 0) (dCons (dP (.glo "UnknownState")) (dNil)))) (dCons (dBi (bIsiN tb xsN) (dCons (dVar 0) (dCons (dP (.glo "NothingLeft")) (dNil)))) (dNil))))))))))))) (gSeq (gRet (dBin dAdd (dBin dAdd (dVar 1) (dVar 2)) (dVar 3))) (gNx))))
def m__law_classes_of : Fn := runD 4 g__law_classes_of
def g__law_codes : G := gSeq (gSet 0 (dLst (dCons (dP (.str "InvalidKinds")) (dCons (dP (.str "InvalidComers")) (dCons (dP (.str "InvalidGap")) (dCons (dP (.str "InvalidComer")) (dCons (dP (.str "InvalidKind")) (dCons (dP (.str "InvalidRow")) (dCons (dP (.str "InvalidPlace")) (dCons (dP (.str "InvalidOrder")) (dCons (dP (.str "InvalidModulus")) (dCons (dP (.str "InvalidRest")) (dCons (dP (.str "InvalidNumber")) (dCons (dP (.str "InvalidLimit")) (dNil))))))))))))))) (gSeq (gSet 1 (dLst (dCons (dP (.str "InvalidLine")) (dCons (dP (.str "InvalidStep")) (dCons (dP (.str "InvalidTable")) (dCons (dP (.str "InvalidBad")) (dCons (dP (.str "NotBorn")) (dCons (dP (.str "NotFree")) (dNil))))))))) (gSeq (gSet 2 (dLst (dCons (dP (.str "InvalidText")) (dCons (dP (.str "InvalidPage")) (dCons (dP (.str "TooMany")) (dCons (dP (.str "Full")) (dCons (dP (.str "InvalidPaper")) (dCons (dP (.str "OtherKinds")) (dCons (dP (.str "OtherComers")) (dNil)))))))))) (gSeq (gRet (dBin dAdd (dBin dAdd (dBin dAdd (dVar 0) (dVar 1)) (dVar 2)) (dLst (dCons (dP (.str "UnknownLetter")) (dCons (dP (.str "UnknownState")) (dCons (dP (.str "NothingLeft")) (dNil))))))) (gNx))))
def m__law_codes : Fn := runD 3 g__law_codes
def g__law_raised : G := gSeq (gTry xsT isaT (gSeq (dIf (dTest (dBin dEq (dVar 0) (dP (.int 0)))) (gSeq (gRaise "InvalidPage" "InvalidPage" [PySem.Str.ofString "line"] (dCons (dVar 1) (dNil))) (gNx)) (gNx)) (gSeq (dIf (dTest (dBin dEq (dVar 0) (dP (.int 1)))) (gSeq (gRaise "UnknownState" "UnknownState" [PySem.Str.ofString "state"] (dCons (dVar 1) (dNil))) (gNx)) (gNx)) (gSeq (gRaise "NothingLeft" "NothingLeft" [] (dP [])) (gNx)))) (("GapError", 2, fun ex => dTup (dConsx (dP (.str "gap")) (dConsx (dXf ex "code") (dP [])))) :: ("Missing", 2, fun ex => dTup (dConsx (dP (.str "missing")) (dConsx (dXf ex "code") (dP [])))) :: ("NothingLeft", 2, fun ex => dTup (dConsx (dP (.str "index")) (dConsx (dXf ex "code") (dP [])))) :: [])) (gNx)
def m__law_raised : Fn := runD 3 g__law_raised
def b_law_0 : G := gSeq (dIf (dTest (dBin dNe (dFld xs_code "code" (dVar 7)) (dBin dIx (dVar 5) (dVar 6)))) (gSeq (gRet (dP (.bl false))) (gNx)) (gNx)) (gSeq (dIf (dTest (dBin dNe (dCall 1 m__law_classes_of (aCons (dVar 7) (aNil))) (dLc (dRng1 (dCons (dBi bLen (dCons (dVar 5) (dNil))) (dNil))) (uName 11) (dYes) (dBin dEq (dVar 11) (dVar 6)) [11]))) (gSeq (gRet (dP (.bl false))) (gNx)) (gNx)) (gSeq (gSet 8 (dLst (dCons (dBin dLt (dVar 6) (dP (.int 25))) (dCons (dBin dLt (dVar 6) (dP (.int 25))) (dCons (dChn dLe dLt (dP (.int 25)) (dVar 6) (dP (.int 27))) (dCons (dBin dLe (dP (.int 25)) (dVar 6)) (dCons (dBin dEq (dVar 6) (dP (.int 27))) (dNil)))))))) (gSeq (dIf (dTest (dBin dNe (dLst (dCons (dBi (bIsiN tb xsN) (dCons (dVar 7) (dCons (dP (.glo "GapError")) (dNil)))) (dCons (dBi (bIsiN tb xsN) (dCons (dVar 7) (dCons (dP (.ty "ValueError")) (dNil)))) (dCons (dBi (bIsiN tb xsN) (dCons (dVar 7) (dCons (dP (.glo "Missing")) (dNil)))) (dCons (dBi (bIsiN tb xsN) (dCons (dVar 7) (dCons (dP (.ty "LookupError")) (dNil)))) (dCons (dBi (bIsiN tb xsN) (dCons (dVar 7) (dCons (dP (.ty "IndexError")) (dNil)))) (dNil))))))) (dVar 8))) (gSeq (gRet (dP (.bl false))) (gNx)) (gNx)) (gNx))))
def a_law_0 : G := gSetF 1 (dCallF 1 m__law_open (aCons (dVar 0) (aNil)))
def a_law_1 : G := gSet 2 (dCall 2 m__law_of (aSlot 1 (aCons (dLst (dCons (dCall 2 m__law_draw (aSlot 1 (aCons (dBin dPow (dP (.int 10)) (dP (.int 6))) (aNil)))) (dCons (dP (.str "text")) (dCons (dP .non) (dCons (dTup (dCons (dP (.int 1)) (dCons (dP (.str "a")) (dNil)))) (dCons (dLst (dCons (dP (.bl true)) (dNil))) (dCons (dP (.str "")) (dCons (dNeg (dP (.int 1))) (dNil))))))))) (aNil))))
def a_law_2 : G := gSet 3 (dLst (dCons (dExc "InvalidText" "InvalidText" [PySem.Str.ofString "line"] (dCons (dVar 2) (dNil))) (dCons (dExc "InvalidPage" "InvalidPage" [PySem.Str.ofString "line"] (dCons (dVar 2) (dNil))) (dCons (dExc "TooMany" "TooMany" [PySem.Str.ofString "most"] (dCons (dVar 2) (dNil))) (dCons (dExc "Full" "Full" [PySem.Str.ofString "most"] (dCons (dVar 2) (dNil))) (dCons (dExc "InvalidPaper" "InvalidPaper" [] (dP [])) (dCons (dExc "OtherKinds" "OtherKinds" [] (dP [])) (dCons (dExc "OtherComers" "OtherComers" [] (dP [])) (dNil)))))))))
def a_law_3 : G := gSet 4 (dBin dAdd (dBin dAdd (dBin dAdd (dCall 1 m__law_given_errors (aCons (dVar 2) (aNil))) (dCall 1 m__law_at_errors (aCons (dVar 2) (aNil)))) (dVar 3)) (dLst (dCons (dExc "UnknownLetter" "UnknownLetter" [PySem.Str.ofString "at"] (dCons (dVar 2) (dNil))) (dCons (dExc "UnknownState" "UnknownState" [PySem.Str.ofString "state"] (dCons (dVar 2) (dNil))) (dCons (dExc "NothingLeft" "NothingLeft" [] (dP [])) (dNil))))))
def a_law_4 : G := gSet 5 (dCall 0 m__law_codes (aNil))
def a_law_5 : G := gFor (dEnum (dCons (dVar 4) (dNil))) (uTup 2 (uCons (uName 6) (uCons (uName 7) (uNil)))) (b_law_0)
def a_law_6 : G := gSet 9 (dBin dAdd (dBin dAdd (dLc (dItL (dCall 1 m__law_given_errors (aCons (dVar 2) (aNil)))) (uName 7) (dYes) (dFld xs_given "given" (dVar 7)) [7]) (dLc (dItL (dCall 1 m__law_at_errors (aCons (dVar 2) (aNil)))) (uName 7) (dYes) (dFld xs_at "at" (dVar 7)) [7])) (dLst (dCons (dFld xs_line "line" (dBin dIx (dVar 3) (dP (.int 0)))) (dCons (dFld xs_line "line" (dBin dIx (dVar 3) (dP (.int 1)))) (dNil)))))
def a_law_7 : G := gSet 9 (dBin dAdd (dVar 9) (dLst (dCons (dFld xs_most "most" (dBin dIx (dVar 3) (dP (.int 2)))) (dCons (dFld xs_most "most" (dBin dIx (dVar 3) (dP (.int 3)))) (dCons (dFld xs_at "at" (dBin dIx (dVar 4) (dP (.int 25)))) (dCons (dFld xs_state "state" (dBin dIx (dVar 4) (dP (.int 26)))) (dNil)))))))
def a_law_8 : G := dIf (dNot (dTest (dCall 2 m__law_same (aCons (dVar 9) (aCons (dBin dMul (dLst (dCons (dVar 2) (dNil))) (dP (.int 24))) (aNil)))))) (gSeq (gRet (dP (.bl false))) (gNx)) (gNx)
def a_law_9 : G := gSet 10 (dExc "InvalidLine" "InvalidLine" [PySem.Str.ofString "at"] (dCons (dP (.str "other")) (dNil)))
def a_law_10 : G := dIf (dOr (dTest (dBin dNe (dFld xs_at "at" (dVar 10)) (dP (.str "other")))) (dNot (dTest (dCall 2 m__law_same (aCons (dFld xs_at "at" (dBin dIx (dCall 1 m__law_at_errors (aCons (dVar 2) (aNil))) (dP (.int 0)))) (aCons (dVar 2) (aNil))))))) (gSeq (gRet (dP (.bl false))) (gNx)) (gNx)
def a_law_11 : G := gRet (dBin dEq (dLc (dRng1 (dCons (dP (.int 3)) (dNil))) (uName 6) (dYes) (dCall 2 m__law_raised (aCons (dVar 6) (aCons (dVar 2) (aNil)))) [6]) (dLst (dCons (dTup (dCons (dP (.str "gap")) (dCons (dP (.str "InvalidPage")) (dNil)))) (dCons (dTup (dCons (dP (.str "missing")) (dCons (dP (.str "UnknownState")) (dNil)))) (dCons (dTup (dCons (dP (.str "index")) (dCons (dP (.str "NothingLeft")) (dNil)))) (dNil))))))
def g_law : G := gSeq a_law_0 (gSeq a_law_1 (gSeq a_law_2 (gSeq a_law_3 (gSeq a_law_4 (gSeq a_law_5 (gSeq a_law_6 (gSeq a_law_7 (gSeq a_law_8 (gSeq a_law_9 (gSeq a_law_10 (gSeq a_law_11 (gNx))))))))))))
def m_law : Fn := runD 12 g_law
end LW
/-! ### the walk -/
namespace LW
open PySem L2 DL
structure Tx (P : Program) (w : World) (K : PySem.W.Frag) (mg : Str → Option Value) : Prop where
  e_InvalidKinds : ExKd P w K mg "InvalidKinds" [PySem.Str.ofString "given"] "InvalidKinds"
  e_InvalidComers : ExKd P w K mg "InvalidComers" [PySem.Str.ofString "given"] "InvalidComers"
  e_InvalidLine : ExKd P w K mg "InvalidLine" [PySem.Str.ofString "at"] "InvalidLine"
  e_InvalidGap : ExKd P w K mg "InvalidGap" [PySem.Str.ofString "given"] "InvalidGap"
  e_InvalidComer : ExKd P w K mg "InvalidComer" [PySem.Str.ofString "given"] "InvalidComer"
  e_InvalidKind : ExKd P w K mg "InvalidKind" [PySem.Str.ofString "given"] "InvalidKind"
  e_InvalidRow : ExKd P w K mg "InvalidRow" [PySem.Str.ofString "given"] "InvalidRow"
  e_InvalidPlace : ExKd P w K mg "InvalidPlace" [PySem.Str.ofString "given"] "InvalidPlace"
  e_InvalidStep : ExKd P w K mg "InvalidStep" [PySem.Str.ofString "at"] "InvalidStep"
  e_InvalidOrder : ExKd P w K mg "InvalidOrder" [PySem.Str.ofString "given"] "InvalidOrder"
  e_InvalidTable : ExKd P w K mg "InvalidTable" [PySem.Str.ofString "at"] "InvalidTable"
  e_InvalidBad : ExKd P w K mg "InvalidBad" [PySem.Str.ofString "at"] "InvalidBad"
  e_InvalidModulus : ExKd P w K mg "InvalidModulus" [PySem.Str.ofString "given"] "InvalidModulus"
  e_InvalidRest : ExKd P w K mg "InvalidRest" [PySem.Str.ofString "given"] "InvalidRest"
  e_InvalidNumber : ExKd P w K mg "InvalidNumber" [PySem.Str.ofString "given"] "InvalidNumber"
  e_InvalidLimit : ExKd P w K mg "InvalidLimit" [PySem.Str.ofString "given"] "InvalidLimit"
  e_InvalidText : ExKd P w K mg "InvalidText" [PySem.Str.ofString "line"] "InvalidText"
  e_InvalidPage : ExKd P w K mg "InvalidPage" [PySem.Str.ofString "line"] "InvalidPage"
  e_InvalidPaper : ExKd P w K mg "InvalidPaper" [] "InvalidPaper"
  e_OtherKinds : ExKd P w K mg "OtherKinds" [] "OtherKinds"
  e_OtherComers : ExKd P w K mg "OtherComers" [] "OtherComers"
  e_NotBorn : ExKd P w K mg "NotBorn" [PySem.Str.ofString "at"] "NotBorn"
  e_NotFree : ExKd P w K mg "NotFree" [PySem.Str.ofString "at"] "NotFree"
  e_TooMany : ExKd P w K mg "TooMany" [PySem.Str.ofString "most"] "TooMany"
  e_Full : ExKd P w K mg "Full" [PySem.Str.ofString "most"] "Full"
  e_UnknownLetter : ExKd P w K mg "UnknownLetter" [PySem.Str.ofString "at"] "UnknownLetter"
  e_UnknownState : ExKd P w K mg "UnknownState" [PySem.Str.ofString "state"] "UnknownState"
  e_NothingLeft : ExKd P w K mg "NothingLeft" [] "NothingLeft"
  n_IndexError : mg "IndexError" = none
  n_LookupError : mg "LookupError" = none
  n_ValueError : mg "ValueError" = none
  n_abs : mg "abs" = none
  n_all : mg "all" = none
  n_bool : mg "bool" = none
  n_enumerate : mg "enumerate" = none
  n_int : mg "int" = none
  n_isinstance : mg "isinstance" = none
  n_len : mg "len" = none
  n_list : mg "list" = none
  n_range : mg "range" = none
  n_str : mg "str" = none
  n_tuple : mg "tuple" = none
  n_zip : mg "zip" = none
  g_GapError : mg "GapError" = some (.ref (He.ga K "GapError"))
  g_Missing : mg "Missing" = some (.ref (He.ga K "Missing"))
  kt : KitT K tb
  ix : ∀ x ∈ xsN, IsX K (He.ga K x)
  x_at : ∀ x ∈ xs_at, XfK K "at" x
  x_code : ∀ x ∈ xs_code, XfK K "code" x
  x_given : ∀ x ∈ xs_given, XfK K "given" x
  x_line : ∀ x ∈ xs_line, XfK K "line" x
  x_most : ∀ x ∈ xs_most, XfK K "most" x
  x_state : ∀ x ∈ xs_state, XfK K "state" x
  t_code : ∀ x ∈ xsT, XfK K "code" x
  h_GapError : ∀ y ∈ xsT, PySem.W.exmOne K (.ref (He.ga K y)) (.ref (He.ga K "GapError")) = some (isaT y "GapError")
  h_Missing : ∀ y ∈ xsT, PySem.W.exmOne K (.ref (He.ga K y)) (.ref (He.ga K "Missing")) = some (isaT y "Missing")
  h_NothingLeft : ∀ y ∈ xsT, PySem.W.exmOne K (.ref (He.ga K y)) (.ref (He.ga K "NothingLeft")) = some (isaT y "NothingLeft")
section
variable {P : Program} {w : World} {K : PySem.W.Frag} {mg : Str → Option Value} {base : Heap}
abbrev N__law_open : List Str := [PySem.Str.ofString "_law_script", PySem.Str.ofString "_law_mixed", PySem.Str.ofString "_law_cell"]
abbrev p__law_open : List Str := [PySem.Str.ofString "_law_script"]
theorem sc__law_open : FnScope N__law_open p__law_open (defScope s__law_open) := ⟨rfl, rfl, rfl, by decide +kernel, rfl, by decide +kernel, by decide +kernel⟩
theorem bi__law_open {fd : FuncData} (F : FunD K "_law_open" "_law_open" (defArgs s__law_open) (defBody s__law_open) (defScope s__law_open) [] [] (He.ga K "_law_open") fd) : ∀ (s : Shared) (us : List Value), us.length = p__law_open.length → BindsTo s fd ⟨us, []⟩ (p__law_open.zip us) := F.bindsA fun _ _ _ _ _ _ us hl => match us, hl with | [_], _ => rfl
theorem ok__law_open (T : Tx P w K mg) (F : Fnd K mg "_law_open" (defArgs s__law_open) (defBody s__law_open) (defScope s__law_open))  : Cal P w K mg base "_law_open" 2 p__law_open m__law_open :=
  cal_of F sc__law_open (fun fd f => bi__law_open f) fun cdv A outer s H E hr => by
    have tk := takes_of (X := cxOf (L2.CX P w) P w K mg base N__law_open "_law_open" (defScope s__law_open) (He.ga K "_law_open") cdv A outer s H E) rfl rfl rfl rfl
    have po : PassesOwn (model P w) (cxOf (L2.CX P w) P w K mg base N__law_open "_law_open" (defScope s__law_open) (He.ga K "_law_open") cdv A outer s H E).A (cxOf (L2.CX P w) P w K mg base N__law_open "_law_open" (defScope s__law_open) (He.ga K "_law_open") cdv A outer s H E).env (cxOf (L2.CX P w) P w K mg base N__law_open "_law_open" (defScope s__law_open) (He.ga K "_law_open") cdv A outer s H E).xe := passes_of rfl
    have S := sc__law_open
    exact dss_cons (ds_set (i := 1) S.nd rfl (Or.inl rfl) (de_int)) (dss_cons (ds_for po rfl (di_list (de_slice (de_var (pe_var (i := 0) rfl (Or.inl rfl))) (dpo_none) (dpo_some (de_int)))) (dg_name (pg_name (i := 2) S.nd rfl (Or.inl rfl))) (dss_cons (ds_set (i := 1) S.nd rfl (Or.inl rfl) (de_bin od_mod (de_ty cd_int rfl T.n_int PyProof.Rows.Boot.«int» (da_cons (de_bin od_add (de_bin od_add (de_bin od_mul (de_var (pe_var (i := 1) rfl (Or.inl rfl))) (de_int)) (de_bin od_mul (de_bin od_mod (de_ty cd_int rfl T.n_int PyProof.Rows.Boot.«int» (da_cons (de_var (pe_var (i := 2) rfl (Or.inl rfl))) (da_nil))) (de_int)) (de_int))) (de_int)) (da_nil))) (de_int))) (dss_nil))) (dss_cons (ds_retF (df_lst (da_cons (de_ty cd_list rfl T.n_list PyProof.Rows.Boot.«list» (da_cons (de_slice (de_var (pe_var (i := 0) rfl (Or.inl rfl))) (dpo_none) (dpo_some (de_int))) (da_nil))) (da_cons (de_int) (da_cons (de_int) (da_cons (de_var (pe_var (i := 1) rfl (Or.inl rfl))) (da_cons (de_int) (da_nil)))))))) (dss_nil)))
abbrev N__law_draw : List Str := [PySem.Str.ofString "_law_bag", PySem.Str.ofString "_law_many", PySem.Str.ofString "_law_cell", PySem.Str.ofString "_law_digit", PySem.Str.ofString "_law_twice"]
abbrev p__law_draw : List Str := [PySem.Str.ofString "_law_bag", PySem.Str.ofString "_law_many"]
theorem sc__law_draw : FnScope N__law_draw p__law_draw (defScope s__law_draw) := ⟨rfl, rfl, rfl, by decide +kernel, rfl, by decide +kernel, by decide +kernel⟩
theorem bi__law_draw {fd : FuncData} (F : FunD K "_law_draw" "_law_draw" (defArgs s__law_draw) (defBody s__law_draw) (defScope s__law_draw) [] [] (He.ga K "_law_draw") fd) : ∀ (s : Shared) (us : List Value), us.length = p__law_draw.length → BindsTo s fd ⟨us, []⟩ (p__law_draw.zip us) := F.bindsA fun _ _ _ _ _ _ us hl => match us, hl with | [_, _], _ => rfl
theorem ok__law_draw (T : Tx P w K mg) (F : Fnd K mg "_law_draw" (defArgs s__law_draw) (defBody s__law_draw) (defScope s__law_draw))  : Cal P w K mg base "_law_draw" 2 p__law_draw m__law_draw :=
  cal_of F sc__law_draw (fun fd f => bi__law_draw f) fun cdv A outer s H E hr => by
    have tk := takes_of (X := cxOf (L2.CX P w) P w K mg base N__law_draw "_law_draw" (defScope s__law_draw) (He.ga K "_law_draw") cdv A outer s H E) rfl rfl rfl rfl
    have po : PassesOwn (model P w) (cxOf (L2.CX P w) P w K mg base N__law_draw "_law_draw" (defScope s__law_draw) (He.ga K "_law_draw") cdv A outer s H E).A (cxOf (L2.CX P w) P w K mg base N__law_draw "_law_draw" (defScope s__law_draw) (He.ga K "_law_draw") cdv A outer s H E).env (cxOf (L2.CX P w) P w K mg base N__law_draw "_law_draw" (defScope s__law_draw) (He.ga K "_law_draw") cdv A outer s H E).xe := passes_of rfl
    have S := sc__law_draw
    exact dss_cons (ds_stI (de_bin od_add (de_ixO (pe_var (i := 0) rfl (Or.inl rfl)) (de_int) (by intro _ _; rfl)) (de_int)) (pe_var (i := 0) rfl (Or.inl rfl)) (de_int)) (dss_cons (ds_if (dt_w (dw_and (dt_cmp (od_eq hr.units) (de_ixO (pe_var (i := 0) rfl (Or.inl rfl)) (de_int) (by intro _ _; rfl)) (de_int)) (dw_and1 (dt_cmp od_lt (de_ixO (pe_var (i := 0) rfl (Or.inl rfl)) (de_int) (by intro _ _; rfl)) (de_bi cd_len rfl T.n_len PyProof.Rows.Boot.«len» (da_cons (de_ixO (pe_var (i := 0) rfl (Or.inl rfl)) (de_int) (by intro _ _; rfl)) (da_nil))))))) (dss_cons (ds_set (i := 2) S.nd rfl (Or.inl rfl) (de_ix ixd (de_ixO (pe_var (i := 0) rfl (Or.inl rfl)) (de_int) (by intro _ _; rfl)) (de_ixO (pe_var (i := 0) rfl (Or.inl rfl)) (de_int) (by intro _ _; rfl)) (by intro _ _; rfl))) (dss_cons (ds_stI (de_bin od_add (de_ixO (pe_var (i := 0) rfl (Or.inl rfl)) (de_int) (by intro _ _; rfl)) (de_int)) (pe_var (i := 0) rfl (Or.inl rfl)) (de_int)) (dss_cons (ds_if (dt_cmp od_ge (de_bi cd_abs rfl T.n_abs PyProof.Rows.Boot.«abs» (da_cons (de_var (pe_var (i := 2) rfl (Or.inl rfl))) (da_nil))) (de_bin od_pow (de_int) (de_int))) (dss_cons (ds_stI (de_bi cd_abs rfl T.n_abs PyProof.Rows.Boot.«abs» (da_cons (de_var (pe_var (i := 2) rfl (Or.inl rfl))) (da_nil))) (pe_var (i := 0) rfl (Or.inl rfl)) (de_int)) (dss_nil)) (dss_cons (ds_stI (de_bin od_mod (de_ty cd_int rfl T.n_int PyProof.Rows.Boot.«int» (da_cons (de_bin od_add (de_bin od_add (de_bin od_mul (de_ixO (pe_var (i := 0) rfl (Or.inl rfl)) (de_int) (by intro _ _; rfl)) (de_int)) (de_bin od_mul (de_bin od_mod (de_ty cd_int rfl T.n_int PyProof.Rows.Boot.«int» (da_cons (de_var (pe_var (i := 2) rfl (Or.inl rfl))) (da_nil))) (de_int)) (de_int))) (de_int)) (da_nil))) (de_int)) (pe_var (i := 0) rfl (Or.inl rfl)) (de_int)) (dss_nil))) (dss_nil)))) (dss_nil)) (dss_cons (ds_if (dt_cmp od_gt (de_ixO (pe_var (i := 0) rfl (Or.inl rfl)) (de_int) (by intro _ _; rfl)) (de_int)) (dss_cons (ds_set (i := 3) S.nd rfl (Or.inl rfl) (de_bin od_mod (de_ty cd_int rfl T.n_int PyProof.Rows.Boot.«int» (da_cons (de_ixO (pe_var (i := 0) rfl (Or.inl rfl)) (de_int) (by intro _ _; rfl)) (da_nil))) (de_var (pe_var (i := 1) rfl (Or.inl rfl))))) (dss_cons (ds_stI (de_bin od_fdiv (de_ixO (pe_var (i := 0) rfl (Or.inl rfl)) (de_int) (by intro _ _; rfl)) (de_var (pe_var (i := 1) rfl (Or.inl rfl)))) (pe_var (i := 0) rfl (Or.inl rfl)) (de_int)) (dss_cons (ds_ret (de_var (pe_var (i := 3) rfl (Or.inl rfl)))) (dss_nil)))) (dss_nil)) (dss_cons (ds_set (i := 4) S.nd rfl (Or.inl rfl) (de_bin od_mod (de_ty cd_int rfl T.n_int PyProof.Rows.Boot.«int» (da_cons (de_bin od_add (de_bin od_mul (de_ixO (pe_var (i := 0) rfl (Or.inl rfl)) (de_int) (by intro _ _; rfl)) (de_ixO (pe_var (i := 0) rfl (Or.inl rfl)) (de_int) (by intro _ _; rfl))) (de_bin od_mul (de_ixO (pe_var (i := 0) rfl (Or.inl rfl)) (de_int) (by intro _ _; rfl)) (de_int))) (da_nil))) (de_int))) (dss_cons (ds_stI (de_bin od_mod (de_ty cd_int rfl T.n_int PyProof.Rows.Boot.«int» (da_cons (de_bin od_add (de_bin od_add (de_bin od_mul (de_var (pe_var (i := 4) rfl (Or.inl rfl))) (de_int)) (de_bin od_mul (de_ixO (pe_var (i := 0) rfl (Or.inl rfl)) (de_int) (by intro _ _; rfl)) (de_int))) (de_int)) (da_nil))) (de_int)) (pe_var (i := 0) rfl (Or.inl rfl)) (de_int)) (dss_cons (ds_ret (de_bin od_mod (de_ty cd_int rfl T.n_int PyProof.Rows.Boot.«int» (da_cons (de_bin od_fdiv (de_ixO (pe_var (i := 0) rfl (Or.inl rfl)) (de_int) (by intro _ _; rfl)) (de_int)) (da_nil))) (de_var (pe_var (i := 1) rfl (Or.inl rfl))))) (dss_nil))))))
abbrev N__law_of : List Str := [PySem.Str.ofString "_law_bag", PySem.Str.ofString "_law_things"]
abbrev p__law_of : List Str := [PySem.Str.ofString "_law_bag", PySem.Str.ofString "_law_things"]
theorem sc__law_of : FnScope N__law_of p__law_of (defScope s__law_of) := ⟨rfl, rfl, rfl, by decide +kernel, rfl, by decide +kernel, by decide +kernel⟩
theorem bi__law_of {fd : FuncData} (F : FunD K "_law_of" "_law_of" (defArgs s__law_of) (defBody s__law_of) (defScope s__law_of) [] [] (He.ga K "_law_of") fd) : ∀ (s : Shared) (us : List Value), us.length = p__law_of.length → BindsTo s fd ⟨us, []⟩ (p__law_of.zip us) := F.bindsA fun _ _ _ _ _ _ us hl => match us, hl with | [_, _], _ => rfl
theorem ok__law_of (T : Tx P w K mg) (F : Fnd K mg "_law_of" (defArgs s__law_of) (defBody s__law_of) (defScope s__law_of)) (c__law_draw : Cal P w K mg base "_law_draw" 2 p__law_draw m__law_draw) : Cal P w K mg base "_law_of" 3 p__law_of m__law_of :=
  cal_of F sc__law_of (fun fd f => bi__law_of f) fun cdv A outer s H E hr => by
    have tk := takes_of (X := cxOf (L2.CX P w) P w K mg base N__law_of "_law_of" (defScope s__law_of) (He.ga K "_law_of") cdv A outer s H E) rfl rfl rfl rfl
    have po : PassesOwn (model P w) (cxOf (L2.CX P w) P w K mg base N__law_of "_law_of" (defScope s__law_of) (He.ga K "_law_of") cdv A outer s H E).A (cxOf (L2.CX P w) P w K mg base N__law_of "_law_of" (defScope s__law_of) (He.ga K "_law_of") cdv A outer s H E).env (cxOf (L2.CX P w) P w K mg base N__law_of "_law_of" (defScope s__law_of) (He.ga K "_law_of") cdv A outer s H E).xe := passes_of rfl
    have S := sc__law_of
    exact dss_cons (ds_ret (de_ix ixd (de_var (pe_var (i := 1) rfl (Or.inl rfl))) (de_cal c__law_draw (hr.mono (by decide)) rfl tk (dar_slot (pe_var (i := 0) rfl (Or.inl rfl)) (dar_cons (de_bi cd_len rfl T.n_len PyProof.Rows.Boot.«len» (da_cons (de_var (pe_var (i := 1) rfl (Or.inl rfl))) (da_nil))) (dar_nil)))) (by intro _ _; rfl))) (dss_nil)
abbrev N__law_same : List Str := [PySem.Str.ofString "_law_found", PySem.Str.ofString "_law_due", PySem.Str.ofString "_law_a", PySem.Str.ofString "_law_b"]
abbrev p__law_same : List Str := [PySem.Str.ofString "_law_found", PySem.Str.ofString "_law_due"]
theorem sc__law_same : FnScope N__law_same p__law_same (defScope s__law_same) := ⟨rfl, rfl, rfl, by decide +kernel, rfl, by decide +kernel, by decide +kernel⟩
theorem bi__law_same {fd : FuncData} (F : FunD K "_law_same" "_law_same" (defArgs s__law_same) (defBody s__law_same) (defScope s__law_same) [] [] (He.ga K "_law_same") fd) : ∀ (s : Shared) (us : List Value), us.length = p__law_same.length → BindsTo s fd ⟨us, []⟩ (p__law_same.zip us) := F.bindsA fun _ _ _ _ _ _ us hl => match us, hl with | [_, _], _ => rfl
theorem st__law_same (T : Tx P w K mg) (F : Fnd K mg "_law_same" (defArgs s__law_same) (defBody s__law_same) (defScope s__law_same)) {k : Nat} {f : Fn} (c__law_same : Cal P w K mg base "_law_same" k p__law_same f) : Cal P w K mg base "_law_same" (k + 1) p__law_same (runD 4 (g__law_same f)) :=
  cal_of F sc__law_same (fun fd f => bi__law_same f) fun cdv A outer s H E hr => by
    have tk := takes_of (X := cxOf (L2.CX P w) P w K mg base N__law_same "_law_same" (defScope s__law_same) (He.ga K "_law_same") cdv A outer s H E) rfl rfl rfl rfl
    have S := sc__law_same
    exact dss_cons (ds_if (dt_w (dw_or (dt_cmp od_is (de_var (pe_var (i := 1) rfl (Or.inl rfl))) (de_non)) (dw_or1 (dt_cmp od_is (de_var (pe_var (i := 0) rfl (Or.inl rfl))) (de_non))))) (dss_cons (ds_ret (de_andV (de_cmp od_is (de_var (pe_var (i := 1) rfl (Or.inl rfl))) (de_non)) (de_one (de_cmp od_is (de_var (pe_var (i := 0) rfl (Or.inl rfl))) (de_non))))) (dss_nil)) (dss_nil)) (dss_cons (ds_if (dt_val (de_bi (cd_isi T.kt T.ix) rfl T.n_isinstance PyProof.Rows.Boot.«isinstance» (da_cons (de_var (pe_var (i := 1) rfl (Or.inl rfl))) (da_cons (de_tup (da_cons (de_typ rfl T.n_list PyProof.Rows.Boot.«list») (da_cons (de_typ rfl T.n_tuple PyProof.Rows.Boot.«tuple») (da_nil)))) (da_nil))))) (dss_cons (ds_if (dt_cmp (od_ne hr.units) (de_bi (cd_isi T.kt T.ix) rfl T.n_isinstance PyProof.Rows.Boot.«isinstance» (da_cons (de_var (pe_var (i := 0) rfl (Or.inl rfl))) (da_cons (de_typ rfl T.n_list PyProof.Rows.Boot.«list») (da_nil)))) (de_bi (cd_isi T.kt T.ix) rfl T.n_isinstance PyProof.Rows.Boot.«isinstance» (da_cons (de_var (pe_var (i := 1) rfl (Or.inl rfl))) (da_cons (de_typ rfl T.n_list PyProof.Rows.Boot.«list») (da_nil))))) (dss_cons (ds_ret (de_bl)) (dss_nil)) (dss_nil)) (dss_cons (ds_if (dt_w (dw_or (dt_cmp (od_ne hr.units) (de_bi (cd_isi T.kt T.ix) rfl T.n_isinstance PyProof.Rows.Boot.«isinstance» (da_cons (de_var (pe_var (i := 0) rfl (Or.inl rfl))) (da_cons (de_typ rfl T.n_tuple PyProof.Rows.Boot.«tuple») (da_nil)))) (de_bi (cd_isi T.kt T.ix) rfl T.n_isinstance PyProof.Rows.Boot.«isinstance» (da_cons (de_var (pe_var (i := 1) rfl (Or.inl rfl))) (da_cons (de_typ rfl T.n_tuple PyProof.Rows.Boot.«tuple») (da_nil))))) (dw_or1 (dt_cmp (od_ne hr.units) (de_bi cd_len rfl T.n_len PyProof.Rows.Boot.«len» (da_cons (de_var (pe_var (i := 0) rfl (Or.inl rfl))) (da_nil))) (de_bi cd_len rfl T.n_len PyProof.Rows.Boot.«len» (da_cons (de_var (pe_var (i := 1) rfl (Or.inl rfl))) (da_nil))))))) (dss_cons (ds_ret (de_bl)) (dss_nil)) (dss_nil)) (dss_cons (ds_ret (de_bi (cd_all rfl) rfl T.n_all PyProof.Rows.Boot.«all» (da_cons (de_fr (df_lc (own := [(PySem.Str.ofString "_law_a", 2), (PySem.Str.ofString "_law_b", 3)]) rfl S.nd (di_zip rfl T.n_zip (da_cons (de_var (pe_var (i := 0) rfl (Or.inl rfl))) (da_cons (de_var (pe_var (i := 1) rfl (Or.inl rfl))) (da_nil)))) (blkOk_by rfl) (fun _ _ _ _ _ => dg_tup rfl (dgs_cons (dg_name (pg_name (i := 2) S.nd rfl (Or.inl rfl))) (dgs_cons (dg_name (pg_name (i := 3) S.nd rfl (Or.inl rfl))) (dgs_nil)))) (fun _ _ _ _ _ => dts_nil) (fun _ _ _ _ _ => de_cal c__law_same hr rfl takes_none5 (dar_cons (de_var (pe_var (i := 2) rfl (Or.inl rfl))) (dar_cons (de_var (pe_var (i := 3) rfl (Or.inl rfl))) (dar_nil)))))) (da_nil)))) (dss_nil)))) (dss_nil)) (dss_cons (ds_if (dt_val (de_bi (cd_isi T.kt T.ix) rfl T.n_isinstance PyProof.Rows.Boot.«isinstance» (da_cons (de_var (pe_var (i := 0) rfl (Or.inl rfl))) (da_cons (de_tup (da_cons (de_typ rfl T.n_list PyProof.Rows.Boot.«list») (da_cons (de_typ rfl T.n_tuple PyProof.Rows.Boot.«tuple») (da_nil)))) (da_nil))))) (dss_cons (ds_ret (de_bl)) (dss_nil)) (dss_nil)) (dss_cons (ds_if (dt_cmp (od_ne hr.units) (de_bi (cd_isi T.kt T.ix) rfl T.n_isinstance PyProof.Rows.Boot.«isinstance» (da_cons (de_var (pe_var (i := 0) rfl (Or.inl rfl))) (da_cons (de_typ rfl T.n_bool PyProof.Rows.Boot.«bool») (da_nil)))) (de_bi (cd_isi T.kt T.ix) rfl T.n_isinstance PyProof.Rows.Boot.«isinstance» (da_cons (de_var (pe_var (i := 1) rfl (Or.inl rfl))) (da_cons (de_typ rfl T.n_bool PyProof.Rows.Boot.«bool») (da_nil))))) (dss_cons (ds_ret (de_bl)) (dss_nil)) (dss_nil)) (dss_cons (ds_if (dt_cmp (od_ne hr.units) (de_bi (cd_isi T.kt T.ix) rfl T.n_isinstance PyProof.Rows.Boot.«isinstance» (da_cons (de_var (pe_var (i := 0) rfl (Or.inl rfl))) (da_cons (de_typ rfl T.n_int PyProof.Rows.Boot.«int») (da_nil)))) (de_bi (cd_isi T.kt T.ix) rfl T.n_isinstance PyProof.Rows.Boot.«isinstance» (da_cons (de_var (pe_var (i := 1) rfl (Or.inl rfl))) (da_cons (de_typ rfl T.n_int PyProof.Rows.Boot.«int») (da_nil))))) (dss_cons (ds_ret (de_bl)) (dss_nil)) (dss_nil)) (dss_cons (ds_ret (de_andV (de_cmp (od_eq hr.units) (de_bi (cd_isi T.kt T.ix) rfl T.n_isinstance PyProof.Rows.Boot.«isinstance» (da_cons (de_var (pe_var (i := 0) rfl (Or.inl rfl))) (da_cons (de_typ rfl T.n_str PyProof.Rows.Boot.«str») (da_nil)))) (de_bi (cd_isi T.kt T.ix) rfl T.n_isinstance PyProof.Rows.Boot.«isinstance» (da_cons (de_var (pe_var (i := 1) rfl (Or.inl rfl))) (da_cons (de_typ rfl T.n_str PyProof.Rows.Boot.«str») (da_nil))))) (de_one (de_cmp (od_eq hr.units) (de_var (pe_var (i := 0) rfl (Or.inl rfl))) (de_var (pe_var (i := 1) rfl (Or.inl rfl))))))) (dss_nil))))))
theorem nn__law_same (T : Tx P w K mg) (F : Fnd K mg "_law_same" (defArgs s__law_same) (defBody s__law_same) (defScope s__law_same)) : ∀ n : Nat, Cal P w K mg base "_law_same" (n + 1) p__law_same (r__law_same n)
  | 0 => cal_stk F sc__law_same fun fd f => bi__law_same f
  | n + 1 => st__law_same T F (nn__law_same T F n)
theorem ok__law_same (T : Tx P w K mg) (F : Fnd K mg "_law_same" (defArgs s__law_same) (defBody s__law_same) (defScope s__law_same)) : Cal P w K mg base "_law_same" 5 p__law_same m__law_same := nn__law_same T F 4
abbrev N__law_given_errors : List Str := [PySem.Str.ofString "_law_x"]
abbrev p__law_given_errors : List Str := [PySem.Str.ofString "_law_x"]
theorem sc__law_given_errors : FnScope N__law_given_errors p__law_given_errors (defScope s__law_given_errors) := ⟨rfl, rfl, rfl, by decide +kernel, rfl, by decide +kernel, by decide +kernel⟩
theorem bi__law_given_errors {fd : FuncData} (F : FunD K "_law_given_errors" "_law_given_errors" (defArgs s__law_given_errors) (defBody s__law_given_errors) (defScope s__law_given_errors) [] [] (He.ga K "_law_given_errors") fd) : ∀ (s : Shared) (us : List Value), us.length = p__law_given_errors.length → BindsTo s fd ⟨us, []⟩ (p__law_given_errors.zip us) := F.bindsA fun _ _ _ _ _ _ us hl => match us, hl with | [_], _ => rfl
theorem ok__law_given_errors (T : Tx P w K mg) (F : Fnd K mg "_law_given_errors" (defArgs s__law_given_errors) (defBody s__law_given_errors) (defScope s__law_given_errors))  : Cal P w K mg base "_law_given_errors" 2 p__law_given_errors m__law_given_errors :=
  cal_of F sc__law_given_errors (fun fd f => bi__law_given_errors f) fun cdv A outer s H E hr => by
    have tk := takes_of (X := cxOf (L2.CX P w) P w K mg base N__law_given_errors "_law_given_errors" (defScope s__law_given_errors) (He.ga K "_law_given_errors") cdv A outer s H E) rfl rfl rfl rfl
    have po : PassesOwn (model P w) (cxOf (L2.CX P w) P w K mg base N__law_given_errors "_law_given_errors" (defScope s__law_given_errors) (He.ga K "_law_given_errors") cdv A outer s H E).A (cxOf (L2.CX P w) P w K mg base N__law_given_errors "_law_given_errors" (defScope s__law_given_errors) (He.ga K "_law_given_errors") cdv A outer s H E).env (cxOf (L2.CX P w) P w K mg base N__law_given_errors "_law_given_errors" (defScope s__law_given_errors) (He.ga K "_law_given_errors") cdv A outer s H E).xe := passes_of rfl
    have S := sc__law_given_errors
    exact dss_cons (ds_ret (de_lst (da_cons (de_exc T.e_InvalidKinds (dp2 hr) rfl (da_cons (de_var (pe_var (i := 0) rfl (Or.inl rfl))) (da_nil))) (da_cons (de_exc T.e_InvalidComers (dp2 hr) rfl (da_cons (de_var (pe_var (i := 0) rfl (Or.inl rfl))) (da_nil))) (da_cons (de_exc T.e_InvalidGap (dp2 hr) rfl (da_cons (de_var (pe_var (i := 0) rfl (Or.inl rfl))) (da_nil))) (da_cons (de_exc T.e_InvalidComer (dp2 hr) rfl (da_cons (de_var (pe_var (i := 0) rfl (Or.inl rfl))) (da_nil))) (da_cons (de_exc T.e_InvalidKind (dp2 hr) rfl (da_cons (de_var (pe_var (i := 0) rfl (Or.inl rfl))) (da_nil))) (da_cons (de_exc T.e_InvalidRow (dp2 hr) rfl (da_cons (de_var (pe_var (i := 0) rfl (Or.inl rfl))) (da_nil))) (da_cons (de_exc T.e_InvalidPlace (dp2 hr) rfl (da_cons (de_var (pe_var (i := 0) rfl (Or.inl rfl))) (da_nil))) (da_cons (de_exc T.e_InvalidOrder (dp2 hr) rfl (da_cons (de_var (pe_var (i := 0) rfl (Or.inl rfl))) (da_nil))) (da_cons (de_exc T.e_InvalidModulus (dp2 hr) rfl (da_cons (de_var (pe_var (i := 0) rfl (Or.inl rfl))) (da_nil))) (da_cons (de_exc T.e_InvalidRest (dp2 hr) rfl (da_cons (de_var (pe_var (i := 0) rfl (Or.inl rfl))) (da_nil))) (da_cons (de_exc T.e_InvalidNumber (dp2 hr) rfl (da_cons (de_var (pe_var (i := 0) rfl (Or.inl rfl))) (da_nil))) (da_cons (de_exc T.e_InvalidLimit (dp2 hr) rfl (da_cons (de_var (pe_var (i := 0) rfl (Or.inl rfl))) (da_nil))) (da_nil))))))))))))))) (dss_nil)
abbrev N__law_at_errors : List Str := [PySem.Str.ofString "_law_x"]
abbrev p__law_at_errors : List Str := [PySem.Str.ofString "_law_x"]
theorem sc__law_at_errors : FnScope N__law_at_errors p__law_at_errors (defScope s__law_at_errors) := ⟨rfl, rfl, rfl, by decide +kernel, rfl, by decide +kernel, by decide +kernel⟩
theorem bi__law_at_errors {fd : FuncData} (F : FunD K "_law_at_errors" "_law_at_errors" (defArgs s__law_at_errors) (defBody s__law_at_errors) (defScope s__law_at_errors) [] [] (He.ga K "_law_at_errors") fd) : ∀ (s : Shared) (us : List Value), us.length = p__law_at_errors.length → BindsTo s fd ⟨us, []⟩ (p__law_at_errors.zip us) := F.bindsA fun _ _ _ _ _ _ us hl => match us, hl with | [_], _ => rfl
theorem ok__law_at_errors (T : Tx P w K mg) (F : Fnd K mg "_law_at_errors" (defArgs s__law_at_errors) (defBody s__law_at_errors) (defScope s__law_at_errors))  : Cal P w K mg base "_law_at_errors" 2 p__law_at_errors m__law_at_errors :=
  cal_of F sc__law_at_errors (fun fd f => bi__law_at_errors f) fun cdv A outer s H E hr => by
    have tk := takes_of (X := cxOf (L2.CX P w) P w K mg base N__law_at_errors "_law_at_errors" (defScope s__law_at_errors) (He.ga K "_law_at_errors") cdv A outer s H E) rfl rfl rfl rfl
    have po : PassesOwn (model P w) (cxOf (L2.CX P w) P w K mg base N__law_at_errors "_law_at_errors" (defScope s__law_at_errors) (He.ga K "_law_at_errors") cdv A outer s H E).A (cxOf (L2.CX P w) P w K mg base N__law_at_errors "_law_at_errors" (defScope s__law_at_errors) (He.ga K "_law_at_errors") cdv A outer s H E).env (cxOf (L2.CX P w) P w K mg base N__law_at_errors "_law_at_errors" (defScope s__law_at_errors) (He.ga K "_law_at_errors") cdv A outer s H E).xe := passes_of rfl
    have S := sc__law_at_errors
    exact dss_cons (ds_ret (de_lst (da_cons (de_exc T.e_InvalidLine (dp2 hr) rfl (da_cons (de_var (pe_var (i := 0) rfl (Or.inl rfl))) (da_nil))) (da_cons (de_exc T.e_InvalidStep (dp2 hr) rfl (da_cons (de_var (pe_var (i := 0) rfl (Or.inl rfl))) (da_nil))) (da_cons (de_exc T.e_InvalidTable (dp2 hr) rfl (da_cons (de_var (pe_var (i := 0) rfl (Or.inl rfl))) (da_nil))) (da_cons (de_exc T.e_InvalidBad (dp2 hr) rfl (da_cons (de_var (pe_var (i := 0) rfl (Or.inl rfl))) (da_nil))) (da_cons (de_exc T.e_NotBorn (dp2 hr) rfl (da_cons (de_var (pe_var (i := 0) rfl (Or.inl rfl))) (da_nil))) (da_cons (de_exc T.e_NotFree (dp2 hr) rfl (da_cons (de_var (pe_var (i := 0) rfl (Or.inl rfl))) (da_nil))) (da_nil))))))))) (dss_nil)
abbrev N__law_classes_of : List Str := [PySem.Str.ofString "_law_e", PySem.Str.ofString "_law_first", PySem.Str.ofString "_law_second", PySem.Str.ofString "_law_third"]
abbrev p__law_classes_of : List Str := [PySem.Str.ofString "_law_e"]
theorem sc__law_classes_of : FnScope N__law_classes_of p__law_classes_of (defScope s__law_classes_of) := ⟨rfl, rfl, rfl, by decide +kernel, rfl, by decide +kernel, by decide +kernel⟩
theorem bi__law_classes_of {fd : FuncData} (F : FunD K "_law_classes_of" "_law_classes_of" (defArgs s__law_classes_of) (defBody s__law_classes_of) (defScope s__law_classes_of) [] [] (He.ga K "_law_classes_of") fd) : ∀ (s : Shared) (us : List Value), us.length = p__law_classes_of.length → BindsTo s fd ⟨us, []⟩ (p__law_classes_of.zip us) := F.bindsA fun _ _ _ _ _ _ us hl => match us, hl with | [_], _ => rfl
theorem ok__law_classes_of (T : Tx P w K mg) (F : Fnd K mg "_law_classes_of" (defArgs s__law_classes_of) (defBody s__law_classes_of) (defScope s__law_classes_of))  : Cal P w K mg base "_law_classes_of" 2 p__law_classes_of m__law_classes_of :=
  cal_of F sc__law_classes_of (fun fd f => bi__law_classes_of f) fun cdv A outer s H E hr => by
    have tk := takes_of (X := cxOf (L2.CX P w) P w K mg base N__law_classes_of "_law_classes_of" (defScope s__law_classes_of) (He.ga K "_law_classes_of") cdv A outer s H E) rfl rfl rfl rfl
    have po : PassesOwn (model P w) (cxOf (L2.CX P w) P w K mg base N__law_classes_of "_law_classes_of" (defScope s__law_classes_of) (He.ga K "_law_classes_of") cdv A outer s H E).A (cxOf (L2.CX P w) P w K mg base N__law_classes_of "_law_classes_of" (defScope s__law_classes_of) (He.ga K "_law_classes_of") cdv A outer s H E).env (cxOf (L2.CX P w) P w K mg base N__law_classes_of "_law_classes_of" (defScope s__law_classes_of) (He.ga K "_law_classes_of") cdv A outer s H E).xe := passes_of rfl
    have S := sc__law_classes_of
    exact dss_cons (ds_set (i := 1) S.nd rfl (Or.inl rfl) (de_lst (da_cons (de_bi (cd_isi T.kt T.ix) rfl T.n_isinstance PyProof.Rows.Boot.«isinstance» (da_cons (de_var (pe_var (i := 0) rfl (Or.inl rfl))) (da_cons (de_glo rfl T.e_InvalidKinds.gl) (da_nil)))) (da_cons (de_bi (cd_isi T.kt T.ix) rfl T.n_isinstance PyProof.Rows.Boot.«isinstance» (da_cons (de_var (pe_var (i := 0) rfl (Or.inl rfl))) (da_cons (de_glo rfl T.e_InvalidComers.gl) (da_nil)))) (da_cons (de_bi (cd_isi T.kt T.ix) rfl T.n_isinstance PyProof.Rows.Boot.«isinstance» (da_cons (de_var (pe_var (i := 0) rfl (Or.inl rfl))) (da_cons (de_glo rfl T.e_InvalidGap.gl) (da_nil)))) (da_cons (de_bi (cd_isi T.kt T.ix) rfl T.n_isinstance PyProof.Rows.Boot.«isinstance» (da_cons (de_var (pe_var (i := 0) rfl (Or.inl rfl))) (da_cons (de_glo rfl T.e_InvalidComer.gl) (da_nil)))) (da_cons (de_bi (cd_isi T.kt T.ix) rfl T.n_isinstance PyProof.Rows.Boot.«isinstance» (da_cons (de_var (pe_var (i := 0) rfl (Or.inl rfl))) (da_cons (de_glo rfl T.e_InvalidKind.gl) (da_nil)))) (da_cons (de_bi (cd_isi T.kt T.ix) rfl T.n_isinstance PyProof.Rows.Boot.«isinstance» (da_cons (de_var (pe_var (i := 0) rfl (Or.inl rfl))) (da_cons (de_glo rfl T.e_InvalidRow.gl) (da_nil)))) (da_cons (de_bi (cd_isi T.kt T.ix) rfl T.n_isinstance PyProof.Rows.Boot.«isinstance» (da_cons (de_var (pe_var (i := 0) rfl (Or.inl rfl))) (da_cons (de_glo rfl T.e_InvalidPlace.gl) (da_nil)))) (da_cons (de_bi (cd_isi T.kt T.ix) rfl T.n_isinstance PyProof.Rows.Boot.«isinstance» (da_cons (de_var (pe_var (i := 0) rfl (Or.inl rfl))) (da_cons (de_glo rfl T.e_InvalidOrder.gl) (da_nil)))) (da_cons (de_bi (cd_isi T.kt T.ix) rfl T.n_isinstance PyProof.Rows.Boot.«isinstance» (da_cons (de_var (pe_var (i := 0) rfl (Or.inl rfl))) (da_cons (de_glo rfl T.e_InvalidModulus.gl) (da_nil)))) (da_cons (de_bi (cd_isi T.kt T.ix) rfl T.n_isinstance PyProof.Rows.Boot.«isinstance» (da_cons (de_var (pe_var (i := 0) rfl (Or.inl rfl))) (da_cons (de_glo rfl T.e_InvalidRest.gl) (da_nil)))) (da_cons (de_bi (cd_isi T.kt T.ix) rfl T.n_isinstance PyProof.Rows.Boot.«isinstance» (da_cons (de_var (pe_var (i := 0) rfl (Or.inl rfl))) (da_cons (de_glo rfl T.e_InvalidNumber.gl) (da_nil)))) (da_cons (de_bi (cd_isi T.kt T.ix) rfl T.n_isinstance PyProof.Rows.Boot.«isinstance» (da_cons (de_var (pe_var (i := 0) rfl (Or.inl rfl))) (da_cons (de_glo rfl T.e_InvalidLimit.gl) (da_nil)))) (da_nil))))))))))))))) (dss_cons (ds_set (i := 2) S.nd rfl (Or.inl rfl) (de_lst (da_cons (de_bi (cd_isi T.kt T.ix) rfl T.n_isinstance PyProof.Rows.Boot.«isinstance» (da_cons (de_var (pe_var (i := 0) rfl (Or.inl rfl))) (da_cons (de_glo rfl T.e_InvalidLine.gl) (da_nil)))) (da_cons (de_bi (cd_isi T.kt T.ix) rfl T.n_isinstance PyProof.Rows.Boot.«isinstance» (da_cons (de_var (pe_var (i := 0) rfl (Or.inl rfl))) (da_cons (de_glo rfl T.e_InvalidStep.gl) (da_nil)))) (da_cons (de_bi (cd_isi T.kt T.ix) rfl T.n_isinstance PyProof.Rows.Boot.«isinstance» (da_cons (de_var (pe_var (i := 0) rfl (Or.inl rfl))) (da_cons (de_glo rfl T.e_InvalidTable.gl) (da_nil)))) (da_cons (de_bi (cd_isi T.kt T.ix) rfl T.n_isinstance PyProof.Rows.Boot.«isinstance» (da_cons (de_var (pe_var (i := 0) rfl (Or.inl rfl))) (da_cons (de_glo rfl T.e_InvalidBad.gl) (da_nil)))) (da_cons (de_bi (cd_isi T.kt T.ix) rfl T.n_isinstance PyProof.Rows.Boot.«isinstance» (da_cons (de_var (pe_var (i := 0) rfl (Or.inl rfl))) (da_cons (de_glo rfl T.e_NotBorn.gl) (da_nil)))) (da_cons (de_bi (cd_isi T.kt T.ix) rfl T.n_isinstance PyProof.Rows.Boot.«isinstance» (da_cons (de_var (pe_var (i := 0) rfl (Or.inl rfl))) (da_cons (de_glo rfl T.e_NotFree.gl) (da_nil)))) (da_nil))))))))) (dss_cons (ds_set (i := 3) S.nd rfl (Or.inl rfl) (de_lst (da_cons (de_bi (cd_isi T.kt T.ix) rfl T.n_isinstance PyProof.Rows.Boot.«isinstance» (da_cons (de_var (pe_var (i := 0) rfl (Or.inl rfl))) (da_cons (de_glo rfl T.e_InvalidText.gl) (da_nil)))) (da_cons (de_bi (cd_isi T.kt T.ix) rfl T.n_isinstance PyProof.Rows.Boot.«isinstance» (da_cons (de_var (pe_var (i := 0) rfl (Or.inl rfl))) (da_cons (de_glo rfl T.e_InvalidPage.gl) (da_nil)))) (da_cons (de_bi (cd_isi T.kt T.ix) rfl T.n_isinstance PyProof.Rows.Boot.«isinstance» (da_cons (de_var (pe_var (i := 0) rfl (Or.inl rfl))) (da_cons (de_glo rfl T.e_TooMany.gl) (da_nil)))) (da_cons (de_bi (cd_isi T.kt T.ix) rfl T.n_isinstance PyProof.Rows.Boot.«isinstance» (da_cons (de_var (pe_var (i := 0) rfl (Or.inl rfl))) (da_cons (de_glo rfl T.e_Full.gl) (da_nil)))) (da_cons (de_bi (cd_isi T.kt T.ix) rfl T.n_isinstance PyProof.Rows.Boot.«isinstance» (da_cons (de_var (pe_var (i := 0) rfl (Or.inl rfl))) (da_cons (de_glo rfl T.e_InvalidPaper.gl) (da_nil)))) (da_cons (de_bi (cd_isi T.kt T.ix) rfl T.n_isinstance PyProof.Rows.Boot.«isinstance» (da_cons (de_var (pe_var (i := 0) rfl (Or.inl rfl))) (da_cons (de_glo rfl T.e_OtherKinds.gl) (da_nil)))) (da_cons (de_bi (cd_isi T.kt T.ix) rfl T.n_isinstance PyProof.Rows.Boot.«isinstance» (da_cons (de_var (pe_var (i := 0) rfl (Or.inl rfl))) (da_cons (de_glo rfl T.e_OtherComers.gl) (da_nil)))) (da_cons (de_bi (cd_isi T.kt T.ix) rfl T.n_isinstance PyProof.Rows.Boot.«isinstance» (da_cons (de_var (pe_var (i := 0) rfl (Or.inl rfl))) (da_cons (de_glo rfl T.e_UnknownLetter.gl) (da_nil)))) (da_cons (de_bi (cd_isi T.kt T.ix) rfl T.n_isinstance PyProof.Rows.Boot.«isinstance» (da_cons (de_var (pe_var (i := 0) rfl (Or.inl rfl))) (da_cons (de_glo rfl T.e_UnknownState.gl) (da_nil)))) (da_cons (de_bi (cd_isi T.kt T.ix) rfl T.n_isinstance PyProof.Rows.Boot.«isinstance» (da_cons (de_var (pe_var (i := 0) rfl (Or.inl rfl))) (da_cons (de_glo rfl T.e_NothingLeft.gl) (da_nil)))) (da_nil))))))))))))) (dss_cons (ds_ret (de_bin od_add (de_bin od_add (de_var (pe_var (i := 1) rfl (Or.inl rfl))) (de_var (pe_var (i := 2) rfl (Or.inl rfl)))) (de_var (pe_var (i := 3) rfl (Or.inl rfl))))) (dss_nil))))
abbrev N__law_codes : List Str := [PySem.Str.ofString "_law_first", PySem.Str.ofString "_law_second", PySem.Str.ofString "_law_third"]
abbrev p__law_codes : List Str := []
theorem sc__law_codes : FnScope N__law_codes p__law_codes (defScope s__law_codes) := ⟨rfl, rfl, rfl, by decide +kernel, rfl, by decide +kernel, by decide +kernel⟩
theorem bi__law_codes {fd : FuncData} (F : FunD K "_law_codes" "_law_codes" (defArgs s__law_codes) (defBody s__law_codes) (defScope s__law_codes) [] [] (He.ga K "_law_codes") fd) : ∀ (s : Shared) (us : List Value), us.length = p__law_codes.length → BindsTo s fd ⟨us, []⟩ (p__law_codes.zip us) := F.bindsA fun _ _ _ _ _ _ us hl => match us, hl with | [], _ => rfl
theorem ok__law_codes (T : Tx P w K mg) (F : Fnd K mg "_law_codes" (defArgs s__law_codes) (defBody s__law_codes) (defScope s__law_codes))  : Cal P w K mg base "_law_codes" 2 p__law_codes m__law_codes :=
  cal_of F sc__law_codes (fun fd f => bi__law_codes f) fun cdv A outer s H E hr => by
    have tk := takes_of (X := cxOf (L2.CX P w) P w K mg base N__law_codes "_law_codes" (defScope s__law_codes) (He.ga K "_law_codes") cdv A outer s H E) rfl rfl rfl rfl
    have po : PassesOwn (model P w) (cxOf (L2.CX P w) P w K mg base N__law_codes "_law_codes" (defScope s__law_codes) (He.ga K "_law_codes") cdv A outer s H E).A (cxOf (L2.CX P w) P w K mg base N__law_codes "_law_codes" (defScope s__law_codes) (He.ga K "_law_codes") cdv A outer s H E).env (cxOf (L2.CX P w) P w K mg base N__law_codes "_law_codes" (defScope s__law_codes) (He.ga K "_law_codes") cdv A outer s H E).xe := passes_of rfl
    have S := sc__law_codes
    exact dss_cons (ds_set (i := 0) S.nd rfl (Or.inl rfl) (de_lst (da_cons (de_str) (da_cons (de_str) (da_cons (de_str) (da_cons (de_str) (da_cons (de_str) (da_cons (de_str) (da_cons (de_str) (da_cons (de_str) (da_cons (de_str) (da_cons (de_str) (da_cons (de_str) (da_cons (de_str) (da_nil))))))))))))))) (dss_cons (ds_set (i := 1) S.nd rfl (Or.inl rfl) (de_lst (da_cons (de_str) (da_cons (de_str) (da_cons (de_str) (da_cons (de_str) (da_cons (de_str) (da_cons (de_str) (da_nil))))))))) (dss_cons (ds_set (i := 2) S.nd rfl (Or.inl rfl) (de_lst (da_cons (de_str) (da_cons (de_str) (da_cons (de_str) (da_cons (de_str) (da_cons (de_str) (da_cons (de_str) (da_cons (de_str) (da_nil)))))))))) (dss_cons (ds_ret (de_bin od_add (de_bin od_add (de_bin od_add (de_var (pe_var (i := 0) rfl (Or.inl rfl))) (de_var (pe_var (i := 1) rfl (Or.inl rfl)))) (de_var (pe_var (i := 2) rfl (Or.inl rfl)))) (de_lst (da_cons (de_str) (da_cons (de_str) (da_cons (de_str) (da_nil))))))) (dss_nil))))
abbrev N__law_raised : List Str := [PySem.Str.ofString "_law_at", PySem.Str.ofString "_law_x", PySem.Str.ofString "_law_e"]
abbrev p__law_raised : List Str := [PySem.Str.ofString "_law_at", PySem.Str.ofString "_law_x"]
theorem sc__law_raised : FnScope N__law_raised p__law_raised (defScope s__law_raised) := ⟨rfl, rfl, rfl, by decide +kernel, rfl, by decide +kernel, by decide +kernel⟩
theorem bi__law_raised {fd : FuncData} (F : FunD K "_law_raised" "_law_raised" (defArgs s__law_raised) (defBody s__law_raised) (defScope s__law_raised) [] [] (He.ga K "_law_raised") fd) : ∀ (s : Shared) (us : List Value), us.length = p__law_raised.length → BindsTo s fd ⟨us, []⟩ (p__law_raised.zip us) := F.bindsA fun _ _ _ _ _ _ us hl => match us, hl with | [_, _], _ => rfl
theorem ok__law_raised (T : Tx P w K mg) (F : Fnd K mg "_law_raised" (defArgs s__law_raised) (defBody s__law_raised) (defScope s__law_raised))  : Cal P w K mg base "_law_raised" 2 p__law_raised m__law_raised :=
  cal_of F sc__law_raised (fun fd f => bi__law_raised f) fun cdv A outer s H E hr => by
    have tk := takes_of (X := cxOf (L2.CX P w) P w K mg base N__law_raised "_law_raised" (defScope s__law_raised) (He.ga K "_law_raised") cdv A outer s H E) rfl rfl rfl rfl
    have po : PassesOwn (model P w) (cxOf (L2.CX P w) P w K mg base N__law_raised "_law_raised" (defScope s__law_raised) (He.ga K "_law_raised") cdv A outer s H E).A (cxOf (L2.CX P w) P w K mg base N__law_raised "_law_raised" (defScope s__law_raised) (He.ga K "_law_raised") cdv A outer s H E).env (cxOf (L2.CX P w) P w K mg base N__law_raised "_law_raised" (defScope s__law_raised) (He.ga K "_law_raised") cdv A outer s H E).xe := passes_of rfl
    have S := sc__law_raised
    exact dss_cons (ds_try rfl rfl S.nd tk (fun W pn xe tkB => dss_cons (ds_if (dt_cmp (od_eq hr.units) (de_var (pe_var (i := 0) rfl (Or.inl rfl))) (de_int)) (dss_cons (ds_raise T.e_InvalidPage rfl tkB (dp2 hr) rfl (da_cons (de_var (pe_var (i := 1) rfl (Or.inl rfl))) (da_nil))) (dss_nil)) (dss_nil)) (dss_cons (ds_if (dt_cmp (od_eq hr.units) (de_var (pe_var (i := 0) rfl (Or.inl rfl))) (de_int)) (dss_cons (ds_raise T.e_UnknownState rfl tkB (dp2 hr) rfl (da_cons (de_var (pe_var (i := 1) rfl (Or.inl rfl))) (da_nil))) (dss_nil)) (dss_nil)) (dss_cons (ds_raise0 T.e_NothingLeft rfl tkB (dp2 hr) rfl) (dss_nil)))) (HdsD.cons (i := 2) ⟨rfl, by decide, Or.inl T.g_GapError⟩ rfl rfl T.h_GapError (fun a oe pn ex dd hm hz hv => dex_tup (dax_cons (dex_of (de_str)) (dax_cons (dex_fld (T.t_code ex.c hm) hz hv (pe_var (i := 2) rfl (Or.inl rfl))) (dax_nil)))) (HdsD.cons (i := 2) ⟨rfl, by decide, Or.inl T.g_Missing⟩ rfl rfl T.h_Missing (fun a oe pn ex dd hm hz hv => dex_tup (dax_cons (dex_of (de_str)) (dax_cons (dex_fld (T.t_code ex.c hm) hz hv (pe_var (i := 2) rfl (Or.inl rfl))) (dax_nil)))) (HdsD.cons (i := 2) ⟨rfl, by decide, Or.inl T.e_NothingLeft.gl⟩ rfl rfl T.h_NothingLeft (fun a oe pn ex dd hm hz hv => dex_tup (dax_cons (dex_of (de_str)) (dax_cons (dex_fld (T.t_code ex.c hm) hz hv (pe_var (i := 2) rfl (Or.inl rfl))) (dax_nil)))) (HdsD.nil))))) (dss_nil)
abbrev N_law : List Str := [PySem.Str.ofString "_law_script", PySem.Str.ofString "_law_bag", PySem.Str.ofString "_law_x", PySem.Str.ofString "_law_late", PySem.Str.ofString "_law_every", PySem.Str.ofString "_law_codes_here", PySem.Str.ofString "_law_at", PySem.Str.ofString "_law_e", PySem.Str.ofString "_law_due", PySem.Str.ofString "_law_given", PySem.Str.ofString "_law_second", PySem.Str.ofString "_law_k"]
abbrev p_law : List Str := [PySem.Str.ofString "_law_script"]
theorem sc_law : FnScope N_law p_law (defScope s_law) := ⟨rfl, rfl, rfl, by decide +kernel, rfl, by decide +kernel, by decide +kernel⟩
theorem bi_law {fd : FuncData} (F : FunD K "law" "law" (defArgs s_law) (defBody s_law) (defScope s_law) [] [] (He.ga K "law") fd) : ∀ (s : Shared) (us : List Value), us.length = p_law.length → BindsTo s fd ⟨us, []⟩ (p_law.zip us) := F.bindsA fun _ _ _ _ _ _ us hl => match us, hl with | [_], _ => rfl
theorem ok_law (T : Tx P w K mg) (F : Fnd K mg "law" (defArgs s_law) (defBody s_law) (defScope s_law)) (c__law_raised : Cal P w K mg base "_law_raised" 2 p__law_raised m__law_raised) (c__law_same : Cal P w K mg base "_law_same" 5 p__law_same m__law_same) (c__law_at_errors : Cal P w K mg base "_law_at_errors" 2 p__law_at_errors m__law_at_errors) (c__law_given_errors : Cal P w K mg base "_law_given_errors" 2 p__law_given_errors m__law_given_errors) (c__law_classes_of : Cal P w K mg base "_law_classes_of" 2 p__law_classes_of m__law_classes_of) (c__law_codes : Cal P w K mg base "_law_codes" 2 p__law_codes m__law_codes) (c__law_of : Cal P w K mg base "_law_of" 3 p__law_of m__law_of) (c__law_draw : Cal P w K mg base "_law_draw" 2 p__law_draw m__law_draw) (c__law_open : Cal P w K mg base "_law_open" 2 p__law_open m__law_open) : Cal P w K mg base "law" 6 p_law m_law :=
  cal_of F sc_law (fun fd f => bi_law f) fun cdv A outer s H E hr => by
    have tk := takes_of (X := cxOf (L2.CX P w) P w K mg base N_law "law" (defScope s_law) (He.ga K "law") cdv A outer s H E) rfl rfl rfl rfl
    have po : PassesOwn (model P w) (cxOf (L2.CX P w) P w K mg base N_law "law" (defScope s_law) (He.ga K "law") cdv A outer s H E).A (cxOf (L2.CX P w) P w K mg base N_law "law" (defScope s_law) (He.ga K "law") cdv A outer s H E).env (cxOf (L2.CX P w) P w K mg base N_law "law" (defScope s_law) (He.ga K "law") cdv A outer s H E).xe := passes_of rfl
    have S := sc_law
    exact dss_cons (dsf_set (i := 1) S.nd rfl (Or.inl rfl) (df_cal c__law_open (hr.mono (by decide)) rfl tk (dar_cons (de_var (pe_var (i := 0) rfl (Or.inl rfl))) (dar_nil)))) (dss_cons (ds_set (i := 2) S.nd rfl (Or.inr rfl) (de_cal c__law_of (hr.mono (by decide)) rfl tk (dar_slot (pe_var (i := 1) rfl (Or.inl rfl)) (dar_cons (de_lst (da_cons (de_cal c__law_draw (hr.mono (by decide)) rfl tk (dar_slot (pe_var (i := 1) rfl (Or.inl rfl)) (dar_cons (de_bin od_pow (de_int) (de_int)) (dar_nil)))) (da_cons (de_str) (da_cons (de_non) (da_cons (de_tup (da_cons (de_int) (da_cons (de_str) (da_nil)))) (da_cons (de_lst (da_cons (de_bl) (da_nil))) (da_cons (de_str) (da_cons (de_neg (de_int)) (da_nil))))))))) (dar_nil))))) (dss_cons (ds_set (i := 3) S.nd rfl (Or.inl rfl) (de_lst (da_cons (de_exc T.e_InvalidText (dp2 hr) rfl (da_cons (de_var (pe_var (i := 2) rfl (Or.inr (Or.inl rfl)))) (da_nil))) (da_cons (de_exc T.e_InvalidPage (dp2 hr) rfl (da_cons (de_var (pe_var (i := 2) rfl (Or.inr (Or.inl rfl)))) (da_nil))) (da_cons (de_exc T.e_TooMany (dp2 hr) rfl (da_cons (de_var (pe_var (i := 2) rfl (Or.inr (Or.inl rfl)))) (da_nil))) (da_cons (de_exc T.e_Full (dp2 hr) rfl (da_cons (de_var (pe_var (i := 2) rfl (Or.inr (Or.inl rfl)))) (da_nil))) (da_cons (de_exc0 T.e_InvalidPaper (dp2 hr) rfl) (da_cons (de_exc0 T.e_OtherKinds (dp2 hr) rfl) (da_cons (de_exc0 T.e_OtherComers (dp2 hr) rfl) (da_nil)))))))))) (dss_cons (ds_set (i := 4) S.nd rfl (Or.inl rfl) (de_bin od_add (de_bin od_add (de_bin od_add (de_cal c__law_given_errors (hr.mono (by decide)) rfl tk (dar_cons (de_var (pe_var (i := 2) rfl (Or.inr (Or.inl rfl)))) (dar_nil))) (de_cal c__law_at_errors (hr.mono (by decide)) rfl tk (dar_cons (de_var (pe_var (i := 2) rfl (Or.inr (Or.inl rfl)))) (dar_nil)))) (de_var (pe_var (i := 3) rfl (Or.inl rfl)))) (de_lst (da_cons (de_exc T.e_UnknownLetter (dp2 hr) rfl (da_cons (de_var (pe_var (i := 2) rfl (Or.inr (Or.inl rfl)))) (da_nil))) (da_cons (de_exc T.e_UnknownState (dp2 hr) rfl (da_cons (de_var (pe_var (i := 2) rfl (Or.inr (Or.inl rfl)))) (da_nil))) (da_cons (de_exc0 T.e_NothingLeft (dp2 hr) rfl) (da_nil))))))) (dss_cons (ds_set (i := 5) S.nd rfl (Or.inl rfl) (de_cal0 c__law_codes (hr.mono (by decide)) rfl tk)) (dss_cons (ds_for po rfl (di_enum rfl T.n_enumerate (da_cons (de_var (pe_var (i := 4) rfl (Or.inl rfl))) (da_nil))) (dg_tup rfl (dgs_cons (dg_name (pg_name (i := 6) S.nd rfl (Or.inr rfl))) (dgs_cons (dg_name (pg_name (i := 7) S.nd rfl (Or.inl rfl))) (dgs_nil)))) (dss_cons (ds_if (dt_cmp (od_ne hr.units) (de_fld T.x_code (de_var (pe_var (i := 7) rfl (Or.inl rfl)))) (de_ix ixd (de_var (pe_var (i := 5) rfl (Or.inl rfl))) (de_var (pe_var (i := 6) rfl (Or.inr (Or.inl rfl)))) (by intro _ _; rfl))) (dss_cons (ds_ret (de_bl)) (dss_nil)) (dss_nil)) (dss_cons (ds_if (dt_cmp (od_ne hr.units) (de_cal c__law_classes_of (hr.mono (by decide)) rfl tk (dar_cons (de_var (pe_var (i := 7) rfl (Or.inl rfl))) (dar_nil))) (de_fr (df_lc (own := [(PySem.Str.ofString "_law_k", 11)]) rfl S.nd (di_range1 rfl T.n_range (da_cons (de_bi cd_len rfl T.n_len PyProof.Rows.Boot.«len» (da_cons (de_var (pe_var (i := 5) rfl (Or.inl rfl))) (da_nil))) (da_nil))) (blkOk_by rfl) (fun _ _ _ _ _ => dg_name (pg_name (i := 11) S.nd rfl (Or.inl rfl))) (fun _ _ _ _ _ => dts_nil) (fun _ _ _ _ _ => de_cmp (od_eq hr.units) (de_var (pe_var (i := 11) rfl (Or.inl rfl))) (de_var (pe_var (i := 6) rfl (Or.inr (Or.inl rfl)))))))) (dss_cons (ds_ret (de_bl)) (dss_nil)) (dss_nil)) (dss_cons (ds_set (i := 8) S.nd rfl (Or.inl rfl) (de_lst (da_cons (de_cmp od_lt (de_var (pe_var (i := 6) rfl (Or.inr (Or.inl rfl)))) (de_int)) (da_cons (de_cmp od_lt (de_var (pe_var (i := 6) rfl (Or.inr (Or.inl rfl)))) (de_int)) (da_cons (de_chain od_le od_lt (de_int) (de_var (pe_var (i := 6) rfl (Or.inr (Or.inl rfl)))) (de_int)) (da_cons (de_cmp od_le (de_int) (de_var (pe_var (i := 6) rfl (Or.inr (Or.inl rfl))))) (da_cons (de_cmp (od_eq hr.units) (de_var (pe_var (i := 6) rfl (Or.inr (Or.inl rfl)))) (de_int)) (da_nil)))))))) (dss_cons (ds_if (dt_cmp (od_ne hr.units) (de_lst (da_cons (de_bi (cd_isi T.kt T.ix) rfl T.n_isinstance PyProof.Rows.Boot.«isinstance» (da_cons (de_var (pe_var (i := 7) rfl (Or.inl rfl))) (da_cons (de_glo rfl T.g_GapError) (da_nil)))) (da_cons (de_bi (cd_isi T.kt T.ix) rfl T.n_isinstance PyProof.Rows.Boot.«isinstance» (da_cons (de_var (pe_var (i := 7) rfl (Or.inl rfl))) (da_cons (de_typ rfl T.n_ValueError PyProof.Rows.Boot.«ValueError») (da_nil)))) (da_cons (de_bi (cd_isi T.kt T.ix) rfl T.n_isinstance PyProof.Rows.Boot.«isinstance» (da_cons (de_var (pe_var (i := 7) rfl (Or.inl rfl))) (da_cons (de_glo rfl T.g_Missing) (da_nil)))) (da_cons (de_bi (cd_isi T.kt T.ix) rfl T.n_isinstance PyProof.Rows.Boot.«isinstance» (da_cons (de_var (pe_var (i := 7) rfl (Or.inl rfl))) (da_cons (de_typ rfl T.n_LookupError PyProof.Rows.Boot.«LookupError») (da_nil)))) (da_cons (de_bi (cd_isi T.kt T.ix) rfl T.n_isinstance PyProof.Rows.Boot.«isinstance» (da_cons (de_var (pe_var (i := 7) rfl (Or.inl rfl))) (da_cons (de_typ rfl T.n_IndexError PyProof.Rows.Boot.«IndexError») (da_nil)))) (da_nil))))))) (de_var (pe_var (i := 8) rfl (Or.inl rfl)))) (dss_cons (ds_ret (de_bl)) (dss_nil)) (dss_nil)) (dss_nil)))))) (dss_cons (ds_set (i := 9) S.nd rfl (Or.inl rfl) (de_bin od_add (de_bin od_add (de_fr (df_lc (own := [(PySem.Str.ofString "_law_e", 7)]) rfl S.nd (di_list (de_cal c__law_given_errors (hr.mono (by decide)) rfl tk (dar_cons (de_var (pe_var (i := 2) rfl (Or.inr (Or.inl rfl)))) (dar_nil)))) (blkOk_by rfl) (fun _ _ _ _ _ => dg_name (pg_name (i := 7) S.nd rfl (Or.inl rfl))) (fun _ _ _ _ _ => dts_nil) (fun _ _ _ _ _ => de_fld T.x_given (de_var (pe_var (i := 7) rfl (Or.inl rfl)))))) (de_fr (df_lc (own := [(PySem.Str.ofString "_law_e", 7)]) rfl S.nd (di_list (de_cal c__law_at_errors (hr.mono (by decide)) rfl tk (dar_cons (de_var (pe_var (i := 2) rfl (Or.inr (Or.inl rfl)))) (dar_nil)))) (blkOk_by rfl) (fun _ _ _ _ _ => dg_name (pg_name (i := 7) S.nd rfl (Or.inl rfl))) (fun _ _ _ _ _ => dts_nil) (fun _ _ _ _ _ => de_fld T.x_at (de_var (pe_var (i := 7) rfl (Or.inl rfl))))))) (de_lst (da_cons (de_fld T.x_line (de_ix ixd (de_var (pe_var (i := 3) rfl (Or.inl rfl))) (de_int) (by intro _ _; rfl))) (da_cons (de_fld T.x_line (de_ix ixd (de_var (pe_var (i := 3) rfl (Or.inl rfl))) (de_int) (by intro _ _; rfl))) (da_nil)))))) (dss_cons (ds_set (i := 9) S.nd rfl (Or.inl rfl) (de_bin od_add (de_var (pe_var (i := 9) rfl (Or.inl rfl))) (de_lst (da_cons (de_fld T.x_most (de_ix ixd (de_var (pe_var (i := 3) rfl (Or.inl rfl))) (de_int) (by intro _ _; rfl))) (da_cons (de_fld T.x_most (de_ix ixd (de_var (pe_var (i := 3) rfl (Or.inl rfl))) (de_int) (by intro _ _; rfl))) (da_cons (de_fld T.x_at (de_ix ixd (de_var (pe_var (i := 4) rfl (Or.inl rfl))) (de_int) (by intro _ _; rfl))) (da_cons (de_fld T.x_state (de_ix ixd (de_var (pe_var (i := 4) rfl (Or.inl rfl))) (de_int) (by intro _ _; rfl))) (da_nil)))))))) (dss_cons (ds_if (dt_not (dt_val (de_cal c__law_same (hr.mono (by decide)) rfl tk (dar_cons (de_var (pe_var (i := 9) rfl (Or.inl rfl))) (dar_cons (de_bin od_mul (de_lst (da_cons (de_var (pe_var (i := 2) rfl (Or.inr (Or.inl rfl)))) (da_nil))) (de_int)) (dar_nil)))))) (dss_cons (ds_ret (de_bl)) (dss_nil)) (dss_nil)) (dss_cons (ds_set (i := 10) S.nd rfl (Or.inl rfl) (de_exc T.e_InvalidLine (dp2 hr) rfl (da_cons (de_str) (da_nil)))) (dss_cons (ds_if (dt_w (dw_or (dt_cmp (od_ne hr.units) (de_fld T.x_at (de_var (pe_var (i := 10) rfl (Or.inl rfl)))) (de_str)) (dw_or1 (dt_not (dt_val (de_cal c__law_same (hr.mono (by decide)) rfl tk (dar_cons (de_fld T.x_at (de_ix ixd (de_cal c__law_at_errors (hr.mono (by decide)) rfl tk (dar_cons (de_var (pe_var (i := 2) rfl (Or.inr (Or.inl rfl)))) (dar_nil))) (de_int) (by intro _ _; rfl))) (dar_cons (de_var (pe_var (i := 2) rfl (Or.inr (Or.inl rfl)))) (dar_nil))))))))) (dss_cons (ds_ret (de_bl)) (dss_nil)) (dss_nil)) (dss_cons (ds_ret (de_cmp (od_eq hr.units) (de_fr (df_lc (own := [(PySem.Str.ofString "_law_at", 6)]) rfl S.nd (di_range1 rfl T.n_range (da_cons (de_int) (da_nil))) (blkOk_by rfl) (fun _ _ _ _ _ => dg_name (pg_name (i := 6) S.nd rfl (Or.inl rfl))) (fun _ _ _ _ _ => dts_nil) (fun _ _ _ _ _ => de_cal c__law_raised (hr.mono (by decide)) rfl takes_none5 (dar_cons (de_var (pe_var (i := 6) rfl (Or.inl rfl))) (dar_cons (de_var (pe_var (i := 2) rfl (Or.inr (Or.inl rfl)))) (dar_nil)))))) (de_lst (da_cons (de_tup (da_cons (de_str) (da_cons (de_str) (da_nil)))) (da_cons (de_tup (da_cons (de_str) (da_cons (de_str) (da_nil)))) (da_cons (de_tup (da_cons (de_str) (da_cons (de_str) (da_nil)))) (da_nil))))))) (dss_nil))))))))))))
end
end LW
/-! the plain law: what the mirrors say -/
namespace LW
open PySem L2 DL
theorem forL_inv {u : D → SD → Option SD} {body : G} {Pd : D → Prop} {I : SD → Prop} (h : ∀ d s, Pd d → I s → ∃ s1, u d s = some s1 ∧ ∃ s2, body s1 = .ok s2 .nx ∧ I s2) : ∀ (l : List D) (s : SD), (∀ d ∈ l, Pd d) → I s → ∃ s', forL u body l s = .ok s' .nx ∧ I s'
  | [], s, _, i => ⟨s, rfl, i⟩
  | d :: l, s, hp, i => by
    obtain ⟨s1, e1, s2, e2, i2⟩ := h d s (hp d (List.mem_cons_self ..)) i
    obtain ⟨s', e3, i3⟩ := forL_inv h l s2 (fun d hd => hp d (List.mem_cons_of_mem _ hd)) i2
    refine ⟨s', ?_, i3⟩
    unfold forL
    rw [e1]
    dsimp only
    rw [e2]
    exact e3
/-- small numbers may be multiplied -/
theorem mulOk_of {i j : Int} (h1 : i.natAbs < 2 ^ 64) (h2 : j.natAbs < 2 ^ 64) : mulOk i j = true := by
  unfold mulOk
  have a : i.natAbs.log2 < 64 ∨ i.natAbs = 0 := by
    by_cases z : i.natAbs = 0
    · exact .inr z
    · exact .inl ((Nat.log2_lt z).mpr h1)
  have b : j.natAbs.log2 < 64 ∨ j.natAbs = 0 := by
    by_cases z : j.natAbs = 0
    · exact .inr z
    · exact .inl ((Nat.log2_lt z).mpr h2)
  have a' : i.natAbs.log2 ≤ 64 := by rcases a with a | a; omega; rw [a]; decide
  have b' : j.natAbs.log2 ≤ 64 := by rcases b with b | b; omega; rw [b]; decide
  exact decide_eq_true (by omega)
theorem oBody_ok {S : D} {m c : Int} (h0 : 0 ≤ m) (h1 : m < 2147483648) : b__law_open_0 [.fz S, .fz (.int m), .fz (.int c)] = .ok [.fz S, .fz (.int ((m * 44021 + c % 1000003 * 853 + 23) % 2147483587)), .fz (.int c)] .nx := by
  have k1 : mulOk m 44021 = true := mulOk_of (by omega) (by decide)
  have k2 : mulOk (c % 1000003) 853 = true := mulOk_of (by omega) (by decide)
  simp [b__law_open_0, gSeq, gSet, gNx, dB, dP, dO, dBin, dMod, dAdd, dMul, dBi, bInt, dCons, dNil, dVar, k1, k2]
theorem sIx0 (n : Nat) : HT.sIx n 0 none = 0 := rfl
theorem open_ok (ns : List Int) : ∃ m : Int, 0 ≤ m ∧ m < 2147483648 ∧ ∃ L : List Int, m__law_open [.v (.frl (ns.map D.int))] = .ok [] (.ow (.lst [.lst (L.map D.int), .int 0, .int 0, .int m, .int 0])) := by
  have cut : ∃ L : List Int, cutD (ns.map D.int) none (some 63) = L.map D.int := ⟨(ns.drop (HT.sIx (ns.map D.int).length 0 none)).take (HT.sIx (ns.map D.int).length (ns.map D.int).length (some 63) - HT.sIx (ns.map D.int).length 0 none), by unfold cutD; rw [List.map_take, List.map_drop]⟩
  obtain ⟨L, eL⟩ := cut
  have lp := forL_inv (u := uName 2) (body := b__law_open_0) (Pd := fun d => ∃ c : Int, d = .int c) (I := fun s => ∃ (m : Int) (x : Sl), 0 ≤ m ∧ m < 2147483648 ∧ s = [.fz (.frl (ns.map D.int)), .fz (.int m), x] ∧ x.cell = none)
    (fun d s ⟨c, hc⟩ ⟨m, x, h0, h1, hs, hx⟩ => by
      subst hc hs
      refine ⟨[.fz (.frl (ns.map D.int)), .fz (.int m), .fz (.int c)], rfl, _, oBody_ok h0 h1, ⟨_, _, ?_, ?_, rfl, rfl⟩⟩ <;> omega)
    (L.map D.int) [.fz (.frl (ns.map D.int)), .fz (.int 4938), .un] (fun d hd => by obtain ⟨c, _, rfl⟩ := List.mem_map.mp hd; exact ⟨c, rfl⟩) ⟨4938, .un, by decide, by decide, rfl, rfl⟩
  obtain ⟨s', e, m, x, h0, h1, hs, hx⟩ := lp
  subst hs
  refine ⟨m, h0, h1, L, ?_⟩
  unfold m__law_open g__law_open runD
  simp [slotsOf, nrf, outs, gSeq, gSet, gFor, dItL, dSl, dPart, dNoPart, dSlice, D.lst?, dB, dP, dO, dVar, eL, e, gRetF, dLst, dCons, dNil, dBi, bList, okLen]
def bagD (L : List Int) (i r q n : Int) : D := .lst [.lst (L.map D.int), .int i, .int r, .int q, .int n]
theorem atI_map {L : List Int} {i : Int} (h0 : 0 ≤ i) (h1 : i < L.length) : ∃ c : Int, atI (L.map D.int) i = some (.int c) := by
  refine ⟨L[i.toNat]'(by omega), ?_⟩
  unfold atI ixN
  rw [if_pos h0, if_pos (by rw [List.length_map]; exact h1)]
  simp
theorem pow18 : (10 : Int) ^ (18 : Int).toNat = 1000000000000000000 := by decide
def tailG : G := (gSeq (gSet 4 (dBin dMod (dBi bInt (dCons (dBin dAdd (dBin dMul (dIxO 0 (dP (.int 3))) (dIxO 0 (dP (.int 3)))) (dBin dMul (dIxO 0 (dP (.int 4))) (dP (.int 9133)))) (dNil))) (dP (.int 2147483549)))) (gSeq (gStI 0 (dBin dMod (dBi bInt (dCons (dBin dAdd (dBin dAdd (dBin dMul (dVar 4) (dP (.int 16033))) (dBin dMul (dIxO 0 (dP (.int 3))) (dP (.int 51043)))) (dP (.int 60029))) (dNil))) (dP (.int 2147483629))) (dP (.int 3))) (gSeq (gRet (dBin dMod (dBi bInt (dCons (dBin dFdiv (dIxO 0 (dP (.int 3))) (dP (.int 64))) (dNil))) (dVar 1))) (gNx))))
theorem tail_ok {L : List Int} {i q n many r : Int} {x y z : Sl} (hq : 0 ≤ q) (hq2 : q < 2147483648) (hn : 0 ≤ n) (hn2 : n < 1000) (hm : 0 < many) :
    ∃ q' k t : Int, 0 ≤ q' ∧ q' < 2147483648 ∧ 0 ≤ k ∧ k < many ∧ tailG [.rf 0 (bagD L i r q n), .fz (.int many), x, y, z] = .ok [.rf 0 (bagD L i r q' n), .fz (.int many), x, y, .fz (.int t)] (.rt (.fz (.int k))) := by
  have ev : ∀ t q' : Int, t = (q * q + n * 9133) % 2147483549 → q' = (t * 16033 + q * 51043 + 60029) % 2147483629 → tailG [.rf 0 (bagD L i r q n), .fz (.int many), x, y, z] = .ok [.rf 0 (bagD L i r q' n), .fz (.int many), x, y, .fz (.int t)] (.rt (.fz (.int (q' / 64 % many)))) := fun t q' et eq => by
    subst et eq
    refine ev_seq (ev_set (ev_bin (ev_bi (ev_cons (ev_bin (ev_bin (ev_ixO rfl ev_P rfl rfl) (ev_ixO rfl ev_P rfl rfl) (op_mul_ok (mulOk_of ?_ ?_))) (ev_bin (ev_ixO rfl ev_P rfl rfl) ev_P (op_mul_ok (mulOk_of ?_ ?_))) rfl) ev_nil) rfl) ev_P (op_mod_ok ?_))) ?_
    · omega
    · omega
    · omega
    · decide
    · decide
    refine ev_seq (ev_stI (ev_bin (ev_bi (ev_cons (ev_bin (ev_bin (ev_bin (ev_var rfl) ev_P (op_mul_ok (mulOk_of ?_ ?_))) (ev_bin (ev_ixO rfl ev_P rfl rfl) ev_P (op_mul_ok (mulOk_of ?_ ?_))) rfl) ev_P rfl) ev_nil) rfl) ev_P (op_mod_ok ?_)) rfl ev_P rfl rfl) ?_
    · omega
    · decide
    · omega
    · decide
    · decide
    exact ev_seqR (ev_ret (ev_bin (ev_bi (ev_cons (ev_bin (ev_ixO rfl ev_P rfl rfl) ev_P (op_fdiv_ok (by decide) (by decide))) ev_nil) rfl) (ev_var rfl) (op_mod_ok hm)))
  exact ⟨_, _, _, Int.emod_nonneg _ (by decide), by have := Int.emod_lt_of_pos ((q * q + n * 9133) % 2147483549 * 16033 + q * 51043 + 60029) (show (0 : Int) < 2147483629 by decide); omega, Int.emod_nonneg _ (by omega), Int.emod_lt_of_pos _ hm, ev _ _ rfl rfl⟩
theorem abs_nn (c : Int) : 0 ≤ (if c < 0 then -c else c) := by split <;> omega
/-- the bag behind a draw -/
theorem draw_ok {L : List Int} {i r q n many : Int} (hi : 0 ≤ i) (hr : 0 ≤ r) (hq : 0 ≤ q) (hq2 : q < 2147483648) (hn : 0 ≤ n) (hn2 : n < 900) (hm : 0 < many) (hm2 : many < 1073741824) :
    ∃ i' r' q' k : Int, m__law_draw [.r (bagD L i r q n), .v (.int many)] = .ok [bagD L i' r' q' (n + 1)] (.fz (.int k)) ∧ 0 ≤ i' ∧ 0 ≤ r' ∧ 0 ≤ q' ∧ q' < 2147483648 ∧ 0 ≤ k ∧ k < many := by
  have hlen : bLen [.lst (L.map D.int)] = some (.int L.length) := by
    show some (D.int ((L.map D.int).length : Int)) = _
    rw [List.length_map]
  -- from the second half on
  have half : ∀ (i r q : Int) (x : Sl), 0 ≤ r → 0 ≤ q → q < 2147483648 → ∃ (r' q' k : Int) (s' : SD), 0 ≤ r' ∧ 0 ≤ q' ∧ q' < 2147483648 ∧ 0 ≤ k ∧ k < many ∧ outs s' 1 0 = some [bagD L i r' q' (n + 1)] ∧
      (gSeq (dIf (dTest (dBin dGt (dIxO 0 (dP (.int 2))) (dP (.int 0)))) (gSeq (gSet 3 (dBin dMod (dBi bInt (dCons (dIxO 0 (dP (.int 2))) (dNil))) (dVar 1))) (gSeq (gStI 0 (dBin dFdiv (dIxO 0 (dP (.int 2))) (dVar 1)) (dP (.int 2))) (gSeq (gRet (dVar 3)) (gNx)))) (gNx)) tailG) [.rf 0 (bagD L i r q (n + 1)), .fz (.int many), x, .un, .un] = .ok s' (.rt (.fz (.int k))) := by
    intro i r q x h1 h2 h3
    by_cases hp : 0 < r
    · refine ⟨r / many, q, r % many, _, Int.ediv_nonneg h1 (by omega), h2, h3, Int.emod_nonneg _ (by omega), Int.emod_lt_of_pos _ hm, ?_, ev_seqR (ev_ifT (ev_test (ev_bin (ev_ixO rfl ev_P rfl rfl) ev_P rfl)) (decide_eq_true hp) (ev_seq (ev_set (ev_bin (ev_bi (ev_cons (ev_ixO rfl ev_P rfl rfl) ev_nil) rfl) (ev_var rfl) (op_mod_ok hm)))
        (ev_seq (ev_stI (ev_bin (ev_ixO rfl ev_P rfl rfl) (ev_var rfl) (op_fdiv_ok hm hm2)) rfl ev_P rfl rfl) (ev_seqR (ev_ret (ev_var rfl))))))⟩
      rfl
    · obtain ⟨q', k, t, t1, t2, t3, t4, t5⟩ := tail_ok (L := L) (i := i) (q := q) (n := n + 1) (many := many) (r := r) (x := x) (y := .un) (z := .un) h2 h3 (by omega) (by omega) hm
      exact ⟨r, q', k, _, h1, t1, t2, t3, t4, rfl, ev_seq (ev_ifF (ev_test (ev_bin (ev_ixO rfl ev_P rfl rfl) ev_P rfl)) (decide_eq_false hp) ev_nx) t5⟩
  by_cases hA : r = 0 ∧ i < L.length
  · obtain ⟨c, hc⟩ := atI_map hi hA.2
    obtain ⟨rfl, hlt⟩ := hA
    by_cases hb : (10 : Int) ^ (18 : Int).toNat ≤ (if c < 0 then -c else c)
    · obtain ⟨r', q', k, s', t1, t2, t3, t4, t5, t6, t7⟩ := half (i + 1) (if c < 0 then -c else c) q (.fz (.int c)) (abs_nn c) hq hq2
      refine ⟨i + 1, r', q', k, ev_run (ev_seq (ev_stI (ev_bin (ev_ixO rfl ev_P rfl rfl) ev_P rfl) rfl ev_P rfl rfl) (ev_seq (ev_ifT (ev_and (ev_test (ev_bin (ev_ixO rfl ev_P rfl rfl) ev_P rfl)) (ev_test (ev_bin (ev_ixO rfl ev_P rfl rfl) (ev_bi (ev_cons (ev_ixO rfl ev_P rfl rfl) ev_nil) hlen) rfl))) ?_
        (ev_seq (ev_set (ev_bin (ev_ixO rfl ev_P rfl rfl) (ev_ixO rfl ev_P rfl rfl) hc)) (ev_seq (ev_stI (ev_bin (ev_ixO rfl ev_P rfl rfl) ev_P rfl) rfl ev_P rfl rfl) (ev_seq (ev_ifT (ev_test (ev_bin (ev_bi (ev_cons (ev_var rfl) ev_nil) rfl) (ev_bin ev_P ev_P rfl) rfl)) (decide_eq_true hb) (ev_seq (ev_stI (ev_bi (ev_cons (ev_var rfl) ev_nil) rfl) rfl ev_P rfl rfl) ev_nx)) ev_nx)))) t7)) t6, by omega, t1, t2, t3, t4, t5⟩
      rw [Bool.and_eq_true]
      exact ⟨rfl, decide_eq_true hlt⟩
    · obtain ⟨r', q', k, s', t1, t2, t3, t4, t5, t6, t7⟩ := half (i + 1) 0 ((q * 38113 + c % 1000003 * 691 + 47) % 2147483629) (.fz (.int c)) (Int.le_refl _) (Int.emod_nonneg _ (by decide)) (by have := Int.emod_lt_of_pos (q * 38113 + c % 1000003 * 691 + 47) (show (0 : Int) < 2147483629 by decide); omega)
      refine ⟨i + 1, r', q', k, ev_run (ev_seq (ev_stI (ev_bin (ev_ixO rfl ev_P rfl rfl) ev_P rfl) rfl ev_P rfl rfl) (ev_seq (ev_ifT (ev_and (ev_test (ev_bin (ev_ixO rfl ev_P rfl rfl) ev_P rfl)) (ev_test (ev_bin (ev_ixO rfl ev_P rfl rfl) (ev_bi (ev_cons (ev_ixO rfl ev_P rfl rfl) ev_nil) hlen) rfl))) ?_
        (ev_seq (ev_set (ev_bin (ev_ixO rfl ev_P rfl rfl) (ev_ixO rfl ev_P rfl rfl) hc)) (ev_seq (ev_stI (ev_bin (ev_ixO rfl ev_P rfl rfl) ev_P rfl) rfl ev_P rfl rfl) (ev_seq (ev_ifF (ev_test (ev_bin (ev_bi (ev_cons (ev_var rfl) ev_nil) rfl) (ev_bin ev_P ev_P rfl) rfl)) (decide_eq_false hb)
          (ev_seq (ev_stI (ev_bin (ev_bi (ev_cons (ev_bin (ev_bin (ev_bin (ev_ixO rfl ev_P rfl rfl) ev_P (op_mul_ok (mulOk_of ?_ ?_))) (ev_bin (ev_bin (ev_bi (ev_cons (ev_var rfl) ev_nil) rfl) ev_P (op_mod_ok ?_)) ev_P (op_mul_ok (mulOk_of ?_ ?_))) rfl) ev_P rfl) ev_nil) rfl) ev_P (op_mod_ok ?_)) rfl ev_P rfl rfl) ev_nx)) ev_nx)))) t7)) t6, by omega, t1, t2, t3, t4, t5⟩
      · rw [Bool.and_eq_true]
        exact ⟨rfl, decide_eq_true hlt⟩
      · omega
      · decide
      · decide
      · omega
      · decide
      · decide
  · obtain ⟨r', q', k, s', t1, t2, t3, t4, t5, t6, t7⟩ := half i r q .un hr hq hq2
    refine ⟨i, r', q', k, ev_run (ev_seq (ev_stI (ev_bin (ev_ixO rfl ev_P rfl rfl) ev_P rfl) rfl ev_P rfl rfl) (ev_seq (ev_ifF (ev_and (ev_test (ev_bin (ev_ixO rfl ev_P rfl rfl) ev_P rfl)) (ev_test (ev_bin (ev_ixO rfl ev_P rfl rfl) (ev_bi (ev_cons (ev_ixO rfl ev_P rfl rfl) ev_nil) hlen) rfl))) ?_ ev_nx) t7)) t6, hi, t1, t2, t3, t4, t5⟩
    rw [Bool.eq_false_iff]
    intro z
    rw [Bool.and_eq_true] at z
    have z1 : (r == 0) = true := z.1
    exact hA ⟨by simpa using z1, of_decide_eq_true z.2⟩
/-- a draw among things -/
theorem of_ok {L : List Int} {i r q n : Int} {l : List D} (hi : 0 ≤ i) (hr : 0 ≤ r) (hq : 0 ≤ q) (hq2 : q < 2147483648) (hn : 0 ≤ n) (hn2 : n < 900) (hm : 0 < l.length) (hm2 : l.length < 1073741824) :
    ∃ (i' r' q' : Int) (d : D), m__law_of [.r (bagD L i r q n), .v (.lst l)] = .ok [bagD L i' r' q' (n + 1)] (.fz d) ∧ 0 ≤ i' ∧ 0 ≤ r' ∧ 0 ≤ q' ∧ q' < 2147483648 ∧ d ∈ l := by
  obtain ⟨i', r', q', k, e, t1, t2, t3, t4, t5, t6⟩ := draw_ok (L := L) (many := l.length) hi hr hq hq2 hn hn2 (by omega) (by omega)
  have at_ : atI l k = some (l[k.toNat]'(by omega)) := by
    unfold atI ixN
    rw [if_pos t5, if_pos t6]
    simp
  exact ⟨i', r', q', _, ev_run (ev_seqR (ev_ret (ev_bin (ev_var rfl) (ev_call (ev_aSlot rfl (ev_aCons (ev_bi (ev_cons (ev_var rfl) ev_nil) rfl) ev_aNil)) (by simp [akIx]) rfl rfl e) at_))) rfl, t1, t2, t3, t4, List.getElem_mem _⟩
end LW
namespace LW
open PySem L2 DL
def isNx (g : G) (s : SD) : Bool := match g s with
  | .ok _ .nx => true
  | _ => false
def nxt (g : G) (s : SD) : SD := match g s with
  | .ok s' .nx => s'
  | _ => []
theorem nx_of {g : G} {s : SD} (h : isNx g s = true) : g s = .ok (nxt g s) .nx := by
  unfold isNx at h
  unfold nxt
  cases e : g s with
  | ok s' o =>
    rw [e] at h
    cases o <;> first | rfl | cases h
  | exc s' x => rw [e] at h; cases h
  | stk => rw [e] at h; cases h
def slotD (s : SD) (i : Nat) : D := match s[i]? with
  | some (.fz d) => d
  | _ => .non
section
variable (S B x : D)
def t2 : SD := [.fz S, .ow B, .fz x, .un, .un, .un, .un, .un, .un, .un, .un, .un]
def t3 : SD := nxt a_law_2 (t2 S B x)
def t4 : SD := nxt a_law_3 (t3 S B x)
def t5 : SD := nxt a_law_4 (t4 S B x)
def t6 : SD := nxt a_law_5 (t5 S B x)
def t7 : SD := nxt a_law_6 (t6 S B x)
def t8 : SD := nxt a_law_7 (t7 S B x)
theorem n2 : isNx a_law_2 (t2 S B x) = true := by kernel_rfl
theorem n3 : isNx a_law_3 (t3 S B x) = true := by kernel_rfl
theorem n4 : isNx a_law_4 (t4 S B x) = true := by kernel_rfl
theorem n5 : isNx a_law_5 (t5 S B x) = true := by kernel_rfl
theorem n6 : isNx a_law_6 (t6 S B x) = true := by kernel_rfl
theorem n7 : isNx a_law_7 (t7 S B x) = true := by kernel_rfl
theorem e8 : t8 S B x = [.fz S, .ow B, .fz x, .fz (slotD (t8 S B x) 3), .fz (slotD (t8 S B x) 4), .fz (slotD (t8 S B x) 5), .fz (slotD (t8 S B x) 6), .fz (slotD (t8 S B x) 7), .fz (slotD (t8 S B x) 8), .fz (.lst (List.replicate 24 x)), .un, .un] := by kernel_rfl
end
end LW
namespace LW
open PySem L2 DL
inductive Kd : D → Prop
  | int (k : Int) : Kd (.int k)
  | txt : Kd (.str "text")
  | non : Kd .non
  | tup : Kd (.tup [.int 1, .str "a"])
  | lst : Kd (.lst [.bl true])
  | emp : Kd (.str "")
theorem rep_all (k : Int) : (List.replicate 24 (k == k)).all id = true := by simp
theorem same1 {x : D} (h : Kd x) : m__law_same [.v x, .v x] = .ok [] (.fz (.bl true)) := by
  cases h with
  | int k =>
    have e : m__law_same [.v (.int k), .v (.int k)] = .ok [] (.fz (.bl (k == k))) := by kernel_rfl
    rw [e]; simp
  | txt => kernel_rfl
  | non => kernel_rfl
  | tup => kernel_rfl
  | lst => kernel_rfl
  | emp => kernel_rfl
theorem same24 {x : D} (h : Kd x) : m__law_same [.v (.lst (List.replicate 24 x)), .v (.lst (List.replicate 24 x))] = .ok [] (.fz (.bl true)) := by
  cases h with
  | int k =>
    have e : m__law_same [.v (.lst (List.replicate 24 (.int k))), .v (.lst (List.replicate 24 (.int k)))] = .ok [] (.fz (.bl ((List.replicate 24 (k == k)).all id))) := by kernel_rfl
    rw [e, rep_all]
  | txt => kernel_rfl
  | non => kernel_rfl
  | tup => kernel_rfl
  | lst => kernel_rfl
  | emp => kernel_rfl
section
variable (S B x a3 a4 a5 a6 a7 a8 : D)
def u8 : SD := [.fz S, .ow B, .fz x, .fz a3, .fz a4, .fz a5, .fz a6, .fz a7, .fz a8, .fz (.lst (List.replicate 24 x)), .un, .un]
def lineX : D := .exc "InvalidLine" [PySem.Str.ofString "at", PySem.Str.ofString "code"] [.str "other", .str "InvalidLine"]
def u9 : SD := [.fz S, .ow B, .fz x, .fz a3, .fz a4, .fz a5, .fz a6, .fz a7, .fz a8, .fz (.lst (List.replicate 24 x)), .fz lineX, .un]
theorem o8 (h : Kd x) : a_law_8 (u8 S B x a3 a4 a5 a6 a7 a8) = .ok (u8 S B x a3 a4 a5 a6 a7 a8) .nx := by
  unfold a_law_8
  refine ev_ifF (ev_not (ev_test (ev_call (ev_aCons (ev_var rfl) (ev_aCons (ev_bin (ev_lst (ev_cons (ev_var rfl) ev_nil) rfl) ev_P (by kernel_rfl : dMul (.lst [x]) (.int 24) = some (.lst (List.replicate 24 x)))) ev_aNil)) (by simp [akIx]) rfl rfl (same24 h)))) rfl ?_
  rfl
theorem o9 : a_law_9 (u8 S B x a3 a4 a5 a6 a7 a8) = .ok (u9 S B x a3 a4 a5 a6 a7 a8) .nx := by kernel_rfl
theorem o10 (h : Kd x) : a_law_10 (u9 S B x a3 a4 a5 a6 a7 a8) = .ok (u9 S B x a3 a4 a5 a6 a7 a8) .nx := by
  unfold a_law_10
  have e1 : (dTest (dBin dNe (dFld xs_at "at" (dVar 10)) (dP (.str "other")))) (u9 S B x a3 a4 a5 a6 a7 a8) = .ok (u9 S B x a3 a4 a5 a6 a7 a8) false := by kernel_rfl
  have e2 : (dFld xs_at "at" (dBin dIx (dCall 1 m__law_at_errors (aCons (dVar 2) (aNil))) (dP (.int 0)))) (u9 S B x a3 a4 a5 a6 a7 a8) = .ok (u9 S B x a3 a4 a5 a6 a7 a8) x := by kernel_rfl
  refine ev_ifF (ev_orF e1 (ev_not (ev_test (ev_call (ev_aCons e2 (ev_aCons (ev_var rfl) ev_aNil)) (by simp [akIx]) rfl rfl (same1 h))))) rfl ?_
  rfl
def u11 : SD := match a_law_11 (u9 S B x a3 a4 a5 a6 a7 a8) with
  | .ok s _ => s
  | _ => []
theorem o11 : a_law_11 (u9 S B x a3 a4 a5 a6 a7 a8) = .ok (u11 S B x a3 a4 a5 a6 a7 a8) (.rt (.fz (.bl true))) := by kernel_rfl
end
theorem pow6 : dPow (.int 10) (.int 6) = some (.int 1000000) := by kernel_rfl
/-- from the drawn thing on -/
theorem rest_true (S B x : D) (hk : Kd x) : ∃ s', gSeq a_law_2 (gSeq a_law_3 (gSeq a_law_4 (gSeq a_law_5 (gSeq a_law_6 (gSeq a_law_7 (gSeq a_law_8 (gSeq a_law_9 (gSeq a_law_10 (gSeq a_law_11 gNx))))))))) (t2 S B x) = .ok s' (.rt (.fz (.bl true))) := by
  refine ⟨u11 S B x (slotD (t8 S B x) 3) (slotD (t8 S B x) 4) (slotD (t8 S B x) 5) (slotD (t8 S B x) 6) (slotD (t8 S B x) 7) (slotD (t8 S B x) 8), ?_⟩
  refine ev_seq (s1 := t3 S B x) (nx_of (n2 _ _ _)) ?_
  refine ev_seq (s1 := t4 S B x) (nx_of (n3 _ _ _)) ?_
  refine ev_seq (s1 := t5 S B x) (nx_of (n4 _ _ _)) ?_
  refine ev_seq (s1 := t6 S B x) (nx_of (n5 _ _ _)) ?_
  refine ev_seq (s1 := t7 S B x) (nx_of (n6 _ _ _)) ?_
  refine ev_seq (s1 := t8 S B x) (nx_of (n7 _ _ _)) ?_
  refine Eq.trans (congrArg (gSeq a_law_8 (gSeq a_law_9 (gSeq a_law_10 (gSeq a_law_11 gNx)))) (show t8 S B x = u8 S B x (slotD (t8 S B x) 3) (slotD (t8 S B x) 4) (slotD (t8 S B x) 5) (slotD (t8 S B x) 6) (slotD (t8 S B x) 7) (slotD (t8 S B x) 8) from e8 S B x)) ?_
  refine ev_seq (o8 _ _ _ _ _ _ _ _ _ hk) ?_
  refine ev_seq (o9 _ _ _ _ _ _ _ _ _) ?_
  refine ev_seq (o10 _ _ _ _ _ _ _ _ _ hk) ?_
  exact ev_seqR (o11 _ _ _ _ _ _ _ _ _)
/-- THE PLAIN LAW -/
theorem law_true (ns : List Int) : m_law [.v (.frl (ns.map D.int))] = .ok [] (.fz (.bl true)) := by
  obtain ⟨m, m0, m1, L, eo⟩ := open_ok ns
  obtain ⟨i1, r1, q1, k, e1, b1, b2, b3, b4, b5, b6⟩ := draw_ok (L := L) (i := 0) (r := 0) (q := m) (n := 0) (many := 1000000) (by decide) (by decide) m0 m1 (by decide) (by decide) (by decide) (by decide)
  obtain ⟨i2, r2, q2, x, e2, c1, c2, c3, c4, c5⟩ := of_ok (L := L) (i := i1) (r := r1) (q := q1) (n := 0 + 1) (l := [.int k, .str "text", .non, .tup [.int 1, .str "a"], .lst [.bl true], .str "", .int (-1)]) b1 b2 b3 b4 (by decide) (by decide) (by simp) (by simp)
  have hk : Kd x := by
    simp only [List.mem_cons, List.not_mem_nil, or_false] at c5
    rcases c5 with rfl | rfl | rfl | rfl | rfl | rfl | rfl
    · exact .int _
    · exact .txt
    · exact .non
    · exact .tup
    · exact .lst
    · exact .emp
    · exact .int _
  obtain ⟨s', er⟩ := rest_true (.frl (ns.map D.int)) (bagD L i2 r2 q2 (0 + 1 + 1)) x hk
  refine ev_run (s := s') ?_ rfl
  refine ev_seq (s1 := [.fz (.frl (ns.map D.int)), .ow (bagD L 0 0 m 0), .un, .un, .un, .un, .un, .un, .un, .un, .un, .un]) (ev_setF (ev_callF (ev_aCons (ev_var rfl) ev_aNil) (by simp [akIx]) rfl rfl eo)) ?_
  refine ev_seq (s1 := t2 (.frl (ns.map D.int)) (bagD L i2 r2 q2 (0 + 1 + 1)) x) (ev_set (ev_call (ev_aSlot rfl (ev_aCons (ev_lst (ev_cons (ev_call (ev_aSlot rfl (ev_aCons (ev_bin ev_P ev_P pow6) ev_aNil)) (by simp [akIx]) rfl rfl e1)
    (ev_cons ev_P (ev_cons ev_P (ev_cons (ev_tup (ev_cons ev_P (ev_cons ev_P ev_nil)) rfl) (ev_cons (ev_lst (ev_cons ev_P ev_nil) rfl) (ev_cons ev_P (ev_cons (ev_neg ev_P) ev_nil))))))) rfl) ev_aNil)) (by simp [akIx]) rfl rfl e2)) ?_
  exact er
end LW
/-! ### the end -/
namespace LW
open PySem PySem.Spec PyProof.Rows L2 DL
theorem bi1_given : DX.Bi1 "given" := fun _ _ _ _ _ _ _ _ _ _ _ _ _ _ _ => BindsTo.of_eq (by first | rfl | with_unfolding_all rfl)
theorem bi1_at : DX.Bi1 "at" := fun _ _ _ _ _ _ _ _ _ _ _ _ _ _ _ => BindsTo.of_eq (by first | rfl | with_unfolding_all rfl)
theorem bi1_line : DX.Bi1 "line" := fun _ _ _ _ _ _ _ _ _ _ _ _ _ _ _ => BindsTo.of_eq (by first | rfl | with_unfolding_all rfl)
theorem bi1_most : DX.Bi1 "most" := fun _ _ _ _ _ _ _ _ _ _ _ _ _ _ _ => BindsTo.of_eq (by first | rfl | with_unfolding_all rfl)
theorem bi1_state : DX.Bi1 "state" := fun _ _ _ _ _ _ _ _ _ _ _ _ _ _ _ => BindsTo.of_eq (by first | rfl | with_unfolding_all rfl)
abbrev P0 : Program := (PySem.Challenge.rw_gapborn_k01_errors_by_themselves).prog
section
variable {w : World} {K : PySem.W.Frag} {h : Heap} {mg : Str → Option Value}
theorem pg (X : K.In h) (G : h.Ns mainGlobals mg) (c : SaysM fa fn ex file tr K) : DX.Pg P0 K mg := ⟨He.free_ok X G (c.d.fact 25 rfl), He.eqO_ok (Bool.and_eq_true_iff.mp c.t).2, by kernel_rfl⟩
theorem k_InvalidKinds (X : K.In h) (G : h.Ns mainGlobals mg) (c : SaysM fa fn ex file tr K) : ExKd P0 w K mg "InvalidKinds" ([PySem.Str.ofString "given"] : List PySem.Str) "InvalidKinds" := exKd1 (d := e_InvalidKinds) X G DX.bVE (c.exs (List.mem_of_getElem? (i := 0) rfl)).1 (c.exs (List.mem_of_getElem? (i := 0) rfl)).2 (pg X G c) rfl rfl rfl (by decide) bi1_given (by decide) (fun _ _ _ _ => ⟨_, rfl⟩)
theorem k_InvalidComers (X : K.In h) (G : h.Ns mainGlobals mg) (c : SaysM fa fn ex file tr K) : ExKd P0 w K mg "InvalidComers" ([PySem.Str.ofString "given"] : List PySem.Str) "InvalidComers" := exKd1 (d := e_InvalidComers) X G DX.bVE (c.exs (List.mem_of_getElem? (i := 1) rfl)).1 (c.exs (List.mem_of_getElem? (i := 1) rfl)).2 (pg X G c) rfl rfl rfl (by decide) bi1_given (by decide) (fun _ _ _ _ => ⟨_, rfl⟩)
theorem k_InvalidLine (X : K.In h) (G : h.Ns mainGlobals mg) (c : SaysM fa fn ex file tr K) : ExKd P0 w K mg "InvalidLine" ([PySem.Str.ofString "at"] : List PySem.Str) "InvalidLine" := exKd1 (d := e_InvalidLine) X G DX.bVE (c.exs (List.mem_of_getElem? (i := 2) rfl)).1 (c.exs (List.mem_of_getElem? (i := 2) rfl)).2 (pg X G c) rfl rfl rfl (by decide) bi1_at (by decide) (fun _ _ _ _ => ⟨_, rfl⟩)
theorem k_InvalidGap (X : K.In h) (G : h.Ns mainGlobals mg) (c : SaysM fa fn ex file tr K) : ExKd P0 w K mg "InvalidGap" ([PySem.Str.ofString "given"] : List PySem.Str) "InvalidGap" := exKd1 (d := e_InvalidGap) X G DX.bVE (c.exs (List.mem_of_getElem? (i := 3) rfl)).1 (c.exs (List.mem_of_getElem? (i := 3) rfl)).2 (pg X G c) rfl rfl rfl (by decide) bi1_given (by decide) (fun _ _ _ _ => ⟨_, rfl⟩)
theorem k_InvalidComer (X : K.In h) (G : h.Ns mainGlobals mg) (c : SaysM fa fn ex file tr K) : ExKd P0 w K mg "InvalidComer" ([PySem.Str.ofString "given"] : List PySem.Str) "InvalidComer" := exKd1 (d := e_InvalidComer) X G DX.bVE (c.exs (List.mem_of_getElem? (i := 4) rfl)).1 (c.exs (List.mem_of_getElem? (i := 4) rfl)).2 (pg X G c) rfl rfl rfl (by decide) bi1_given (by decide) (fun _ _ _ _ => ⟨_, rfl⟩)
theorem k_InvalidKind (X : K.In h) (G : h.Ns mainGlobals mg) (c : SaysM fa fn ex file tr K) : ExKd P0 w K mg "InvalidKind" ([PySem.Str.ofString "given"] : List PySem.Str) "InvalidKind" := exKd1 (d := e_InvalidKind) X G DX.bVE (c.exs (List.mem_of_getElem? (i := 5) rfl)).1 (c.exs (List.mem_of_getElem? (i := 5) rfl)).2 (pg X G c) rfl rfl rfl (by decide) bi1_given (by decide) (fun _ _ _ _ => ⟨_, rfl⟩)
theorem k_InvalidRow (X : K.In h) (G : h.Ns mainGlobals mg) (c : SaysM fa fn ex file tr K) : ExKd P0 w K mg "InvalidRow" ([PySem.Str.ofString "given"] : List PySem.Str) "InvalidRow" := exKd1 (d := e_InvalidRow) X G DX.bVE (c.exs (List.mem_of_getElem? (i := 6) rfl)).1 (c.exs (List.mem_of_getElem? (i := 6) rfl)).2 (pg X G c) rfl rfl rfl (by decide) bi1_given (by decide) (fun _ _ _ _ => ⟨_, rfl⟩)
theorem k_InvalidPlace (X : K.In h) (G : h.Ns mainGlobals mg) (c : SaysM fa fn ex file tr K) : ExKd P0 w K mg "InvalidPlace" ([PySem.Str.ofString "given"] : List PySem.Str) "InvalidPlace" := exKd1 (d := e_InvalidPlace) X G DX.bVE (c.exs (List.mem_of_getElem? (i := 7) rfl)).1 (c.exs (List.mem_of_getElem? (i := 7) rfl)).2 (pg X G c) rfl rfl rfl (by decide) bi1_given (by decide) (fun _ _ _ _ => ⟨_, rfl⟩)
theorem k_InvalidStep (X : K.In h) (G : h.Ns mainGlobals mg) (c : SaysM fa fn ex file tr K) : ExKd P0 w K mg "InvalidStep" ([PySem.Str.ofString "at"] : List PySem.Str) "InvalidStep" := exKd1 (d := e_InvalidStep) X G DX.bVE (c.exs (List.mem_of_getElem? (i := 8) rfl)).1 (c.exs (List.mem_of_getElem? (i := 8) rfl)).2 (pg X G c) rfl rfl rfl (by decide) bi1_at (by decide) (fun _ _ _ _ => ⟨_, rfl⟩)
theorem k_InvalidOrder (X : K.In h) (G : h.Ns mainGlobals mg) (c : SaysM fa fn ex file tr K) : ExKd P0 w K mg "InvalidOrder" ([PySem.Str.ofString "given"] : List PySem.Str) "InvalidOrder" := exKd1 (d := e_InvalidOrder) X G DX.bVE (c.exs (List.mem_of_getElem? (i := 9) rfl)).1 (c.exs (List.mem_of_getElem? (i := 9) rfl)).2 (pg X G c) rfl rfl rfl (by decide) bi1_given (by decide) (fun _ _ _ _ => ⟨_, rfl⟩)
theorem k_InvalidTable (X : K.In h) (G : h.Ns mainGlobals mg) (c : SaysM fa fn ex file tr K) : ExKd P0 w K mg "InvalidTable" ([PySem.Str.ofString "at"] : List PySem.Str) "InvalidTable" := exKd1 (d := e_InvalidTable) X G DX.bVE (c.exs (List.mem_of_getElem? (i := 10) rfl)).1 (c.exs (List.mem_of_getElem? (i := 10) rfl)).2 (pg X G c) rfl rfl rfl (by decide) bi1_at (by decide) (fun _ _ _ _ => ⟨_, rfl⟩)
theorem k_InvalidBad (X : K.In h) (G : h.Ns mainGlobals mg) (c : SaysM fa fn ex file tr K) : ExKd P0 w K mg "InvalidBad" ([PySem.Str.ofString "at"] : List PySem.Str) "InvalidBad" := exKd1 (d := e_InvalidBad) X G DX.bVE (c.exs (List.mem_of_getElem? (i := 11) rfl)).1 (c.exs (List.mem_of_getElem? (i := 11) rfl)).2 (pg X G c) rfl rfl rfl (by decide) bi1_at (by decide) (fun _ _ _ _ => ⟨_, rfl⟩)
theorem k_InvalidModulus (X : K.In h) (G : h.Ns mainGlobals mg) (c : SaysM fa fn ex file tr K) : ExKd P0 w K mg "InvalidModulus" ([PySem.Str.ofString "given"] : List PySem.Str) "InvalidModulus" := exKd1 (d := e_InvalidModulus) X G DX.bVE (c.exs (List.mem_of_getElem? (i := 12) rfl)).1 (c.exs (List.mem_of_getElem? (i := 12) rfl)).2 (pg X G c) rfl rfl rfl (by decide) bi1_given (by decide) (fun _ _ _ _ => ⟨_, rfl⟩)
theorem k_InvalidRest (X : K.In h) (G : h.Ns mainGlobals mg) (c : SaysM fa fn ex file tr K) : ExKd P0 w K mg "InvalidRest" ([PySem.Str.ofString "given"] : List PySem.Str) "InvalidRest" := exKd1 (d := e_InvalidRest) X G DX.bVE (c.exs (List.mem_of_getElem? (i := 13) rfl)).1 (c.exs (List.mem_of_getElem? (i := 13) rfl)).2 (pg X G c) rfl rfl rfl (by decide) bi1_given (by decide) (fun _ _ _ _ => ⟨_, rfl⟩)
theorem k_InvalidNumber (X : K.In h) (G : h.Ns mainGlobals mg) (c : SaysM fa fn ex file tr K) : ExKd P0 w K mg "InvalidNumber" ([PySem.Str.ofString "given"] : List PySem.Str) "InvalidNumber" := exKd1 (d := e_InvalidNumber) X G DX.bVE (c.exs (List.mem_of_getElem? (i := 14) rfl)).1 (c.exs (List.mem_of_getElem? (i := 14) rfl)).2 (pg X G c) rfl rfl rfl (by decide) bi1_given (by decide) (fun _ _ _ _ => ⟨_, rfl⟩)
theorem k_InvalidLimit (X : K.In h) (G : h.Ns mainGlobals mg) (c : SaysM fa fn ex file tr K) : ExKd P0 w K mg "InvalidLimit" ([PySem.Str.ofString "given"] : List PySem.Str) "InvalidLimit" := exKd1 (d := e_InvalidLimit) X G DX.bVE (c.exs (List.mem_of_getElem? (i := 15) rfl)).1 (c.exs (List.mem_of_getElem? (i := 15) rfl)).2 (pg X G c) rfl rfl rfl (by decide) bi1_given (by decide) (fun _ _ _ _ => ⟨_, rfl⟩)
theorem k_InvalidText (X : K.In h) (G : h.Ns mainGlobals mg) (c : SaysM fa fn ex file tr K) : ExKd P0 w K mg "InvalidText" ([PySem.Str.ofString "line"] : List PySem.Str) "InvalidText" := exKd1 (d := e_InvalidText) X G DX.bVE (c.exs (List.mem_of_getElem? (i := 16) rfl)).1 (c.exs (List.mem_of_getElem? (i := 16) rfl)).2 (pg X G c) rfl rfl rfl (by decide) bi1_line (by decide) (fun _ _ _ _ => ⟨_, rfl⟩)
theorem k_InvalidPage (X : K.In h) (G : h.Ns mainGlobals mg) (c : SaysM fa fn ex file tr K) : ExKd P0 w K mg "InvalidPage" ([PySem.Str.ofString "line"] : List PySem.Str) "InvalidPage" := exKd1 (d := e_InvalidPage) X G DX.bVE (c.exs (List.mem_of_getElem? (i := 17) rfl)).1 (c.exs (List.mem_of_getElem? (i := 17) rfl)).2 (pg X G c) rfl rfl rfl (by decide) bi1_line (by decide) (fun _ _ _ _ => ⟨_, rfl⟩)
theorem k_InvalidPaper (X : K.In h) (G : h.Ns mainGlobals mg) (c : SaysM fa fn ex file tr K) : ExKd P0 w K mg "InvalidPaper" [] "InvalidPaper" := exKd0 (d := e_InvalidPaper) X G DX.bVE (c.exs (List.mem_of_getElem? (i := 18) rfl)).1 (c.exs (List.mem_of_getElem? (i := 18) rfl)).2 (pg X G c) rfl rfl rfl (fun _ _ _ _ => ⟨_, rfl⟩)
theorem k_OtherKinds (X : K.In h) (G : h.Ns mainGlobals mg) (c : SaysM fa fn ex file tr K) : ExKd P0 w K mg "OtherKinds" [] "OtherKinds" := exKd0 (d := e_OtherKinds) X G DX.bVE (c.exs (List.mem_of_getElem? (i := 19) rfl)).1 (c.exs (List.mem_of_getElem? (i := 19) rfl)).2 (pg X G c) rfl rfl rfl (fun _ _ _ _ => ⟨_, rfl⟩)
theorem k_OtherComers (X : K.In h) (G : h.Ns mainGlobals mg) (c : SaysM fa fn ex file tr K) : ExKd P0 w K mg "OtherComers" [] "OtherComers" := exKd0 (d := e_OtherComers) X G DX.bVE (c.exs (List.mem_of_getElem? (i := 20) rfl)).1 (c.exs (List.mem_of_getElem? (i := 20) rfl)).2 (pg X G c) rfl rfl rfl (fun _ _ _ _ => ⟨_, rfl⟩)
theorem k_NotBorn (X : K.In h) (G : h.Ns mainGlobals mg) (c : SaysM fa fn ex file tr K) : ExKd P0 w K mg "NotBorn" ([PySem.Str.ofString "at"] : List PySem.Str) "NotBorn" := exKd1 (d := e_NotBorn) X G DX.bVE (c.exs (List.mem_of_getElem? (i := 21) rfl)).1 (c.exs (List.mem_of_getElem? (i := 21) rfl)).2 (pg X G c) rfl rfl rfl (by decide) bi1_at (by decide) (fun _ _ _ _ => ⟨_, rfl⟩)
theorem k_NotFree (X : K.In h) (G : h.Ns mainGlobals mg) (c : SaysM fa fn ex file tr K) : ExKd P0 w K mg "NotFree" ([PySem.Str.ofString "at"] : List PySem.Str) "NotFree" := exKd1 (d := e_NotFree) X G DX.bVE (c.exs (List.mem_of_getElem? (i := 22) rfl)).1 (c.exs (List.mem_of_getElem? (i := 22) rfl)).2 (pg X G c) rfl rfl rfl (by decide) bi1_at (by decide) (fun _ _ _ _ => ⟨_, rfl⟩)
theorem k_TooMany (X : K.In h) (G : h.Ns mainGlobals mg) (c : SaysM fa fn ex file tr K) : ExKd P0 w K mg "TooMany" ([PySem.Str.ofString "most"] : List PySem.Str) "TooMany" := exKd1 (d := e_TooMany) X G DX.bVE (c.exs (List.mem_of_getElem? (i := 23) rfl)).1 (c.exs (List.mem_of_getElem? (i := 23) rfl)).2 (pg X G c) rfl rfl rfl (by decide) bi1_most (by decide) (fun _ _ _ _ => ⟨_, rfl⟩)
theorem k_Full (X : K.In h) (G : h.Ns mainGlobals mg) (c : SaysM fa fn ex file tr K) : ExKd P0 w K mg "Full" ([PySem.Str.ofString "most"] : List PySem.Str) "Full" := exKd1 (d := e_Full) X G DX.bVE (c.exs (List.mem_of_getElem? (i := 24) rfl)).1 (c.exs (List.mem_of_getElem? (i := 24) rfl)).2 (pg X G c) rfl rfl rfl (by decide) bi1_most (by decide) (fun _ _ _ _ => ⟨_, rfl⟩)
theorem k_UnknownLetter (X : K.In h) (G : h.Ns mainGlobals mg) (c : SaysM fa fn ex file tr K) : ExKd P0 w K mg "UnknownLetter" ([PySem.Str.ofString "at"] : List PySem.Str) "UnknownLetter" := exKd1 (d := e_UnknownLetter) X G DX.bLE (c.exs (List.mem_of_getElem? (i := 25) rfl)).1 (c.exs (List.mem_of_getElem? (i := 25) rfl)).2 (pg X G c) rfl rfl rfl (by decide) bi1_at (by decide) (fun _ _ _ _ => ⟨_, rfl⟩)
theorem k_UnknownState (X : K.In h) (G : h.Ns mainGlobals mg) (c : SaysM fa fn ex file tr K) : ExKd P0 w K mg "UnknownState" ([PySem.Str.ofString "state"] : List PySem.Str) "UnknownState" := exKd1 (d := e_UnknownState) X G DX.bLE (c.exs (List.mem_of_getElem? (i := 26) rfl)).1 (c.exs (List.mem_of_getElem? (i := 26) rfl)).2 (pg X G c) rfl rfl rfl (by decide) bi1_state (by decide) (fun _ _ _ _ => ⟨_, rfl⟩)
theorem k_NothingLeft (X : K.In h) (G : h.Ns mainGlobals mg) (c : SaysM fa fn ex file tr K) : ExKd P0 w K mg "NothingLeft" [] "NothingLeft" := exKd0 (d := e_NothingLeft) X G DX.bIE (c.exs (List.mem_of_getElem? (i := 27) rfl)).1 (c.exs (List.mem_of_getElem? (i := 27) rfl)).2 (pg X G c) rfl rfl rfl (fun _ _ _ _ => ⟨_, rfl⟩)
theorem exAll (c : SaysM fa fn ex file tr K) : ∀ d ∈ ex, IsX K (He.ga K d.x) ∧ (∀ f ∈ d.fs, XfK K f d.x) ∧ XfK K "code" d.x := fun d hd => by
  have z := (c.exs hd).1
  unfold ExD.ok at z
  rw [Bool.and_eq_true, Bool.and_eq_true] at z
  have T := ExD.exC z.1
  have q := ExD.xf z.2.1 T
  exact ⟨isxB_ok z.2.2 T, q.1, q.2.1⟩
theorem tx (X : K.In h) (G : h.Ns mainGlobals mg) (c : SaysM fa fn ex file tr K) : Tx P0 w K mg where
  e_InvalidKinds := k_InvalidKinds X G c
  e_InvalidComers := k_InvalidComers X G c
  e_InvalidLine := k_InvalidLine X G c
  e_InvalidGap := k_InvalidGap X G c
  e_InvalidComer := k_InvalidComer X G c
  e_InvalidKind := k_InvalidKind X G c
  e_InvalidRow := k_InvalidRow X G c
  e_InvalidPlace := k_InvalidPlace X G c
  e_InvalidStep := k_InvalidStep X G c
  e_InvalidOrder := k_InvalidOrder X G c
  e_InvalidTable := k_InvalidTable X G c
  e_InvalidBad := k_InvalidBad X G c
  e_InvalidModulus := k_InvalidModulus X G c
  e_InvalidRest := k_InvalidRest X G c
  e_InvalidNumber := k_InvalidNumber X G c
  e_InvalidLimit := k_InvalidLimit X G c
  e_InvalidText := k_InvalidText X G c
  e_InvalidPage := k_InvalidPage X G c
  e_InvalidPaper := k_InvalidPaper X G c
  e_OtherKinds := k_OtherKinds X G c
  e_OtherComers := k_OtherComers X G c
  e_NotBorn := k_NotBorn X G c
  e_NotFree := k_NotFree X G c
  e_TooMany := k_TooMany X G c
  e_Full := k_Full X G c
  e_UnknownLetter := k_UnknownLetter X G c
  e_UnknownState := k_UnknownState X G c
  e_NothingLeft := k_NothingLeft X G c
  n_IndexError := He.free_ok X G (c.d.fact 24 rfl)
  n_LookupError := He.free_ok X G (c.d.fact 23 rfl)
  n_ValueError := He.free_ok X G (c.d.fact 22 rfl)
  n_abs := He.free_ok X G (c.d.fact 10 rfl)
  n_all := He.free_ok X G (c.d.fact 15 rfl)
  n_bool := He.free_ok X G (c.d.fact 19 rfl)
  n_enumerate := He.free_ok X G (c.d.fact 17 rfl)
  n_int := He.free_ok X G (c.d.fact 12 rfl)
  n_isinstance := He.free_ok X G (c.d.fact 14 rfl)
  n_len := He.free_ok X G (c.d.fact 11 rfl)
  n_list := He.free_ok X G (c.d.fact 13 rfl)
  n_range := He.free_ok X G (c.d.fact 18 rfl)
  n_str := He.free_ok X G (c.d.fact 20 rfl)
  n_tuple := He.free_ok X G (c.d.fact 21 rfl)
  n_zip := He.free_ok X G (c.d.fact 16 rfl)
  g_GapError := He.glo_ok X G (c.d.fact 26 rfl)
  g_Missing := He.glo_ok X G (c.d.fact 27 rfl)
  kt := kitT_of (Bool.and_eq_true_iff.mp c.t).1
  ix := fun x hx => by
    obtain ⟨d, hd, rfl⟩ := (by decide +kernel : ∀ x ∈ xsN, ∃ d ∈ ex, d.x = x) x hx
    exact (exAll c d hd).1
  x_at := fun x hx => by
    obtain ⟨d, hd, rfl, hf⟩ := (by decide +kernel : ∀ x ∈ xs_at, ∃ d ∈ ex, d.x = x ∧ PySem.Str.ofString "at" ∈ d.fs) x hx
    exact (exAll c d hd).2.1 _ hf
  x_code := fun x hx => by
    obtain ⟨d, hd, rfl⟩ := (by decide +kernel : ∀ x ∈ xs_code, ∃ d ∈ ex, d.x = x) x hx
    exact (exAll c d hd).2.2
  x_given := fun x hx => by
    obtain ⟨d, hd, rfl, hf⟩ := (by decide +kernel : ∀ x ∈ xs_given, ∃ d ∈ ex, d.x = x ∧ PySem.Str.ofString "given" ∈ d.fs) x hx
    exact (exAll c d hd).2.1 _ hf
  x_line := fun x hx => by
    obtain ⟨d, hd, rfl, hf⟩ := (by decide +kernel : ∀ x ∈ xs_line, ∃ d ∈ ex, d.x = x ∧ PySem.Str.ofString "line" ∈ d.fs) x hx
    exact (exAll c d hd).2.1 _ hf
  x_most := fun x hx => by
    obtain ⟨d, hd, rfl, hf⟩ := (by decide +kernel : ∀ x ∈ xs_most, ∃ d ∈ ex, d.x = x ∧ PySem.Str.ofString "most" ∈ d.fs) x hx
    exact (exAll c d hd).2.1 _ hf
  x_state := fun x hx => by
    obtain ⟨d, hd, rfl, hf⟩ := (by decide +kernel : ∀ x ∈ xs_state, ∃ d ∈ ex, d.x = x ∧ PySem.Str.ofString "state" ∈ d.fs) x hx
    exact (exAll c d hd).2.1 _ hf
  t_code := fun x hx => by
    obtain ⟨d, hd, rfl⟩ := (by decide +kernel : ∀ x ∈ xsT, ∃ d ∈ ex, d.x = x) x hx
    exact (exAll c d hd).2.2
  h_GapError := fun y hy => by
    rcases List.mem_cons.mp hy with rfl | hy
    · exact (He.exm_ok (c.d.fact 28 rfl)).trans (by kernel_rfl)
    rcases List.mem_cons.mp hy with rfl | hy
    · exact (He.exm_ok (c.d.fact 29 rfl)).trans (by kernel_rfl)
    rcases List.mem_cons.mp hy with rfl | hy
    · exact (He.exm_ok (c.d.fact 30 rfl)).trans (by kernel_rfl)
    cases hy
  h_Missing := fun y hy => by
    rcases List.mem_cons.mp hy with rfl | hy
    · exact (He.exm_ok (c.d.fact 31 rfl)).trans (by kernel_rfl)
    rcases List.mem_cons.mp hy with rfl | hy
    · exact (He.exm_ok (c.d.fact 32 rfl)).trans (by kernel_rfl)
    rcases List.mem_cons.mp hy with rfl | hy
    · exact (He.exm_ok (c.d.fact 33 rfl)).trans (by kernel_rfl)
    cases hy
  h_NothingLeft := fun y hy => by
    rcases List.mem_cons.mp hy with rfl | hy
    · exact (He.exm_ok (c.d.fact 34 rfl)).trans (by kernel_rfl)
    rcases List.mem_cons.mp hy with rfl | hy
    · exact (He.exm_ok (c.d.fact 35 rfl)).trans (by kernel_rfl)
    rcases List.mem_cons.mp hy with rfl | hy
    · exact (He.exm_ok (c.d.fact 36 rfl)).trans (by kernel_rfl)
    cases hy
theorem fnd (X : K.In h) (G : h.Ns mainGlobals mg) (c : SaysM fa fn ex file tr K) {x : Str} {pa : Arguments} {bd : List Stmt} {sc : Scope} (i j : Nat) (hi : fn[i]? = some ⟨(x, none), x, x, pa, bd, sc, [], []⟩) (hj : fa[j]? = some (.glo x)) : Fnd K mg x pa bd sc := ⟨c.d.def_ i hi, He.glo_ok X G (c.d.fact j hj)⟩
theorem law_cal (X : K.In h) (G : h.Ns mainGlobals mg) (c : SaysM fa fn ex file tr K) (base : Heap) : Cal P0 w K mg base "law" 6 p_law m_law := by
  have T : Tx P0 w K mg := tx X G c
  have c__law_open := ok__law_open (base := base) T (fnd X G c 0 0 rfl rfl) 
  have c__law_draw := ok__law_draw (base := base) T (fnd X G c 1 1 rfl rfl) 
  have c__law_of := ok__law_of (base := base) T (fnd X G c 2 2 rfl rfl) c__law_draw
  have c__law_same := ok__law_same (base := base) T (fnd X G c 3 3 rfl rfl) 
  have c__law_given_errors := ok__law_given_errors (base := base) T (fnd X G c 4 4 rfl rfl) 
  have c__law_at_errors := ok__law_at_errors (base := base) T (fnd X G c 5 5 rfl rfl) 
  have c__law_classes_of := ok__law_classes_of (base := base) T (fnd X G c 6 6 rfl rfl) 
  have c__law_codes := ok__law_codes (base := base) T (fnd X G c 7 7 rfl rfl) 
  have c__law_raised := ok__law_raised (base := base) T (fnd X G c 8 8 rfl rfl) 
  have c_law := ok_law (base := base) T (fnd X G c 9 9 rfl rfl) c__law_raised c__law_same c__law_at_errors c__law_given_errors c__law_classes_of c__law_codes c__law_of c__law_draw c__law_open
  exact c_law
end
end LW
open PySem PySem.W PySem.Calls PyProof.Rows
theorem PySem.Challenge.cw_gapborn_k01_errors_by_themselves_holds : PySem.Challenge.rw_gapborn_k01_errors_by_themselves.Holds := by
  w_on; o_law
  refine HandSHeadRun.head_any (r := OpenLaw.row PySem.Challenge.rw_gapborn_k01_errors_by_themselves) (q := view (OpenLaw.row PySem.Challenge.rw_gapborn_k01_errors_by_themselves).prog [41]) (H := LW.hk) (ob := LW.ob) (M := 20000) (loose := LW.loose) (d := HandSHeadRun.topDef (OpenLaw.row PySem.Challenge.rw_gapborn_k01_errors_by_themselves).prog 41) (kwd := []) LW.ob_eq
    (by kernel_rfl) (fun s => by kernel_rfl) LW.run (by kernel_rfl) (by kernel_rfl) (by kernel_rfl) (by rfl) (by first | assumption | decide +kernel) (by decide +kernel) ⟨rfl, rfl, rfl, rfl, rfl, by decide +kernel⟩ ?hw ?hc
  case hw => w_witness2
  case hc =>
    refine L2.walk_ofE (l := PySem.Challenge.rw_gapborn_k01_errors_by_themselves) (n := 63) (k := 6) (x := "_law_script") (CX := DL.CXF) rfl (by decide) (by kernel_rfl) ⟨rfl, by decide, by decide⟩ ?F (fun _ _ _ _ z => z)
    intro w mg fa h Y G hmg0
    obtain ⟨K, KX, c⟩ := Y
    have hmg : mg ("law" : PySem.Str) = some (.ref fa) := by
      have e : (HandSHeadRun.topDef (OpenLaw.row PySem.Challenge.rw_gapborn_k01_errors_by_themselves).prog 41).name = ("law" : PySem.Str) := by kernel_rfl
      rw [← e]
      exact hmg0
    have C0 := LW.law_cal (w := w) KX G c h
    have e := hmg.symm.trans C0.gl
    cases e
    obtain ⟨fd, F0, b, oc, od, osl, q⟩ := C0.ok
    refine ⟨K, fd, fun vs H Q _ => DL.spD K 1 LW.m_law vs H Q fun _ _ _ => False, KX, fun s u => b s [u] rfl, fun H a ns hl _ hS => DL.sp_law (LW.law_true ns) hS, fun base KB GB => ?_⟩
    obtain ⟨fd2, F2, _, oc2, od2, osl2, q2⟩ := (LW.law_cal (w := w) KX G c base).ok
    rw [q] at q2
    cases q2
    exact DL.toF F2
